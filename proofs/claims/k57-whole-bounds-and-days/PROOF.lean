import PyProof.Rows.All
import Wide.All
import OpenK.AllK
import Wide.FinOn
import HandS.Comp
import HandS.Conv
import HandS.Defaults
import HandS.ForMost
import HandS.GenList
import HandS.GenYield
import HandS.Head0
import HandS.Head1
import HandS.Head2
import HandS.HeadEnd
import HandS.HeadHook1
import HandS.HeadHook2
import HandS.HeadNt
import HandS.IsInst
import HandS.SetFor
import HandS.Star
import HandS.Strs
import HandS.TryOnly
import HandS.TupAny
import HandS.TupMul
import HandS.Words
import KE.KStateDown
import PyProof.Draws
import PyProof.EnumMake
import PySem.Challenge.RW_lanerules_k57_whole_bounds_and_days
set_option Elab.async false
set_option linter.all false
set_option maxRecDepth 100000
set_option maxHeartbeats 0
set_option autoImplicit false
/-! G1: the ghost machine: quiet steps, and the loud yield of a delegating generator. -/
namespace GG
open PySem

/-- the continuation that stands in the ghost's table for a generator that nobody wakes again -/
def dead : Resume → Sem Fin := fun _ => .unsupported "dead"
/-- the code that delegates to a generator at it -/
abbrev yfCode (it : Addr) (more : List Value) (kw : List (Str × Value)) : Code := .builtin "proto.yield_from" ⟨.ref it :: more, kw⟩
/-- a generator object stands at it -/
def GenAtO (h : Heap) (it : Addr) : Prop := ∃ o, h.get? it = some o ∧ o.genNumber?.isSome = true

/-- ghost entry, real entry -/
inductive R2e (dl : List Addr) : GenState → GenState → Prop
  | same {x} : R2e dl x x
  | loud {k l it more kw p fs} : it ∈ dl → fs.any Frame.guarded = false → R2e dl (.suspended dead l (yfCode it more kw) p fs false) (.suspended k l (yfCode it more kw) p fs true)
structure R2 (dl : List Addr) (a b : Shared) : Prop where
  heap : b.heap = a.heap
  drawn : b.drawn = a.drawn
  toks : b.toks = a.toks
  os : b.os = a.os
  size : b.gens.size = a.gens.size
  gens : ∀ (i : Nat) (x : GenState), a.gens[i]? = some x → ∃ y, b.gens[i]? = some y ∧ R2e dl x y
theorem R2e.mono {dl dl' : List Addr} (h : ∀ a ∈ dl, a ∈ dl') {x y : GenState} : R2e dl x y → R2e dl' x y
  | .same => .same
  | .loud m g => .loud (h _ m) g
theorem R2.mono {dl dl' : List Addr} (h : ∀ a ∈ dl, a ∈ dl') {a b : Shared} (r : R2 dl a b) : R2 dl' a b :=
  ⟨r.heap, r.drawn, r.toks, r.os, r.size, fun i x e => let ⟨y, e1, q⟩ := r.gens i x e; ⟨y, e1, q.mono h⟩⟩
theorem R2.refl {dl : List Addr} (a : Shared) : R2 dl a a := ⟨rfl, rfl, rfl, rfl, rfl, fun _ x e => ⟨x, e, .same⟩⟩
theorem R2e.seen {dl : List Addr} {x y : GenState} : R2e dl x y → y.seen = x.seen
  | .same => rfl
  | .loud _ _ => rfl
theorem R2.set {dl : List Addr} {a b : Shared} (r : R2 dl a b) (g : Nat) {x y : GenState} (q : R2e dl x y) {h : Heap} {d : Drawn} {t : Nat} {o : OsState} :
    R2 dl { heap := h, gens := a.gens.setIfInBounds g x, drawn := d, toks := t, os := o } { heap := h, gens := b.gens.setIfInBounds g y, drawn := d, toks := t, os := o } := by
  refine ⟨rfl, rfl, rfl, rfl, by simpa using r.size, fun i z e => ?_⟩
  have e' : (a.gens.setIfInBounds g x)[i]? = some z := e
  show ∃ y_1, (b.gens.setIfInBounds g y)[i]? = some y_1 ∧ R2e dl z y_1
  by_cases hi : g = i
  · subst hi
    rw [Array.getElem?_setIfInBounds_self] at e' ⊢
    rw [r.size]
    split at e'
    · rename_i hlt
      rw [if_pos hlt]
      cases e'
      exact ⟨y, rfl, q⟩
    · cases e'
  · rw [Array.getElem?_setIfInBounds_ne hi] at e' ⊢
    exact r.gens i z e'
theorem R2.push {dl : List Addr} {a b : Shared} (r : R2 dl a b) (x : GenState) {h : Heap} {d : Drawn} {t : Nat} {o : OsState} :
    R2 dl { heap := h, gens := a.gens.push x, drawn := d, toks := t, os := o } { heap := h, gens := b.gens.push x, drawn := d, toks := t, os := o } := by
  refine ⟨rfl, rfl, rfl, rfl, by simpa using r.size, fun i z e => ?_⟩
  have e' : (a.gens.push x)[i]? = some z := e
  show ∃ y_1, (b.gens.push x)[i]? = some y_1 ∧ R2e dl z y_1
  rw [Array.getElem?_push] at e' ⊢
  rw [r.size]
  split at e'
  · rename_i hi
    rw [if_pos hi]
    exact ⟨z, e', .same⟩
  · rename_i hi
    rw [if_neg hi]
    exact r.gens i z e'
theorem R2.at {dl : List Addr} {a b : Shared} (r : R2 dl a b) {h : Heap} {d : Drawn} {t : Nat} {o : OsState} :
    R2 dl { heap := h, gens := a.gens, drawn := d, toks := t, os := o } { heap := h, gens := b.gens, drawn := d, toks := t, os := o } := ⟨rfl, rfl, rfl, rfl, r.size, r.gens⟩

section
variable (den : Code → Sem Fin) (prog : Program) (w : World)
/-- a step from related states: related, or the ghost has woken a dead one -/
theorem step_gens {dl : List Addr} {a b a' : Shared} {t t' : Thread} (r : R2 dl a b) (h : step den prog w a t = .go a' t') :
    (∃ b', step den prog w b t = .go b' t' ∧ R2 dl a' b') ∨ ∃ what, t'.cur = .unsupported what := by
  obtain ⟨ah, ag, ad, at', ao⟩ := a
  obtain ⟨bh, bg, bd, bt, bo⟩ := b
  obtain ⟨e1, e2, e3, e4, _, _⟩ := id r
  dsimp only at e1 e2 e3 e4
  subst e1 e2 e3 e4
  obtain ⟨cur, code, pos, stack⟩ := t
  cases cur with
  | pure fin =>
    cases fin with
    | done f =>
      cases stack with
      | nil => simp only [step, finish] at h; split at h <;> cases h
      | cons F rest =>
        cases F with
        | ret k hh g l c p kept => simp only [step] at h; injection h with h1 h2; subst h1 h2; exact .inl ⟨_, rfl, r.at⟩
        | gen g k l c p => simp only [step] at h; injection h with h1 h2; subst h1 h2; exact .inl ⟨_, rfl, r.set g .same⟩
    | again c => simp only [step] at h; injection h with h1 h2; subst h1 h2; exact .inl ⟨_, rfl, r.at⟩
  | raise e =>
    cases stack with
    | nil => simp only [step, finish] at h; split at h <;> cases h
    | cons F rest =>
      cases F with
      | ret k hh g l c p kept => simp only [step] at h; injection h with h1 h2; subst h1 h2; exact .inl ⟨_, rfl, r.at⟩
      | gen g k l c p => simp only [step] at h; injection h with h1 h2; subst h1 h2; exact .inl ⟨_, rfl, r.set g .same⟩
  | unsupported what => simp only [step] at h; cases h
  | finish e => simp only [step] at h; split at h <;> cases h
  | rule tag k => simp only [step] at h; injection h with h1 h2; subst h1 h2; exact .inl ⟨_, rfl, r.at⟩
  | «at» p k => simp only [step] at h; injection h with h1 h2; subst h1 h2; exact .inl ⟨_, rfl, r.at⟩
  | load x part k =>
    simp only [step] at h ⊢
    cases hx : bh.get? x with
    | none => rw [hx] at h; cases h
    | some o => rw [hx] at h; injection h with h1 h2; subst h1 h2; exact .inl ⟨_, rfl, r.at⟩
  | update x part f k =>
    simp only [step] at h ⊢
    by_cases hx : (bh.get? x).isSome = true
    · rw [if_pos hx] at h ⊢; injection h with h1 h2; subst h1 h2; exact .inl ⟨_, rfl, r.at⟩
    · rw [if_neg hx] at h; cases h
  | alloc o k => simp only [step] at h; injection h with h1 h2; subst h1 h2; exact .inl ⟨_, rfl, r.at⟩
  | loadIfAlive x k => simp only [step] at h; injection h with h1 h2; subst h1 h2; exact .inl ⟨_, rfl, r.at⟩
  | point l k => simp only [step] at h; injection h with h1 h2; subst h1 h2; exact .inl ⟨_, rfl, r.at⟩
  | register x k => simp only [step] at h; cases h
  | fresh k => simp only [step] at h; injection h with h1 h2; subst h1 h2; exact .inl ⟨_, rfl, r.at⟩
  | ask k => simp only [step] at h; injection h with h1 h2; subst h1 h2; exact .inl ⟨_, rfl, r.at⟩
  | choose src n k =>
    simp only [step] at h ⊢
    by_cases hx : n = 0
    · rw [if_pos hx] at h; cases h
    · rw [if_neg hx] at h ⊢; injection h with h1 h2; subst h1 h2; exact .inl ⟨_, rfl, r.at⟩
  | os q l k => simp only [step] at h; injection h with h1 h2; subst h1 h2; exact .inl ⟨_, rfl, r.at⟩
  | call c hh g l k => simp only [step] at h; injection h with h1 h2; subst h1 h2; exact .inl ⟨_, rfl, r.at⟩
  | handled own k => simp only [step] at h; injection h with h1 h2; subst h1 h2; exact .inl ⟨_, rfl, r.at⟩
  | newGen c k =>
    simp only [step] at h; injection h with h1 h2; subst h1 h2
    refine .inl ⟨_, by simp only [step, show bg.size = ag.size from r.size], r.push _⟩
  | genState g k =>
    simp only [step] at h ⊢
    cases hx : ag[g]? with
    | none => rw [hx] at h; cases h
    | some x =>
      obtain ⟨y, hy, q⟩ := r.gens g x hx
      have hy' : bg[g]? = some y := hy
      rw [hx] at h; rw [hy']
      injection h with h1 h2; subst h1 h2
      refine .inl ⟨_, ?_, r.at⟩
      cases q <;> rfl
  | resume g rr l k =>
    simp only [step] at h ⊢
    cases hx : ag[g]? with
    | none => rw [hx] at h; cases h
    | some x =>
      obtain ⟨y, hy, q⟩ := r.gens g x hx
      have hy' : bg[g]? = some y := hy
      rw [hx] at h; rw [hy']
      cases q with
      | loud m gd => injection h with h1 h2; subst h1 h2; exact .inr ⟨_, rfl⟩
      | same =>
        cases x with
        | fresh c =>
          cases rr with
          | send v => cases v <;> (injection h with h1 h2; subst h1 h2; first | exact .inl ⟨_, rfl, r.at⟩ | exact .inl ⟨_, rfl, r.set g .same⟩)
          | throw e => injection h with h1 h2; subst h1 h2; exact .inl ⟨_, rfl, r.set g .same⟩
        | suspended kk ll c p fs cl => injection h with h1 h2; subst h1 h2; exact .inl ⟨_, rfl, r.set g .same⟩
        | running => injection h with h1 h2; subst h1 h2; exact .inl ⟨_, rfl, r.at⟩
        | finished => injection h with h1 h2; subst h1 h2; exact .inl ⟨_, rfl, r.at⟩
  | yield v g0 l kk =>
    simp only [step] at h ⊢
    cases hx : splitAtGen stack with
    | none => rw [hx] at h; cases h
    | some x =>
      obtain ⟨fs, ⟨g, k, c, p⟩, rest⟩ := x
      rw [hx] at h
      injection h with h1 h2; subst h1 h2; exact .inl ⟨_, rfl, r.set g .same⟩
  | stack k => simp only [step] at h; injection h with h1 h2; subst h1 h2; exact .inl ⟨_, rfl, r.at⟩
  | thread k => simp only [step] at h; injection h with h1 h2; subst h1 h2; exact .inl ⟨_, rfl, r.at⟩
  | fork c k => simp only [step] at h; cases h
  | await x f d l k => simp only [step] at h; cases h
end
end GG
/-! G2: the real scheduler at a loud yield and at the end; the ghost's runs; they are sound. -/
namespace GG
open PySem
open PySem.Spec
open PyProof.Rows

theorem delegate_quiet {s : Shared} {it : Addr} (hz : s.asleep) (h : GenAtO s.heap it) : delegateShows s (.ref it) = false := by
  obtain ⟨o, ho, hg⟩ := h
  obtain ⟨g, hg⟩ := Option.isSome_iff_exists.mp hg
  simp only [delegateShows, ho, hg, hz.1]
  rfl
theorem shows_not {s : Shared} {it : Addr} {more : List Value} {kw : List (Str × Value)} {fs : List Frame} {b : Bool} (hz : s.asleep) (h : GenAtO s.heap it) (hf : fs.any Frame.guarded = false) : closingShows s fs (yfCode it more kw) b = false := by
  simp only [closingShows, hf, Bool.false_or]
  show (b && delegateShows s (.ref it)) = false
  rw [delegate_quiet hz h, Bool.and_false]

section
variable (den : Code → Sem Fin) (prog : Program) (w : World)
theorem lifeStep_loudYield {s : Shared} {it : Addr} {more : List Value} {kw : List (Str × Value)} {v : Value} {l : List Value} {k : Resume → Sem Fin} {p : Pos} {st fs rest : List Frame} {x : Nat × (GenResult → Sem Fin) × Code × Pos}
    (hz : s.asleep) (hs : splitAtGen st = some (fs, x, rest)) (hf : fs.any Frame.guarded = false) (hg : GenAtO s.heap it) (others : List Value) :
    lifeStep den prog w others s ⟨.yield v true l k, yfCode it more kw, p, st⟩ = step den prog w s ⟨.yield v true l k, yfCode it more kw, p, st⟩ := by
  have hsp : Thread.special ⟨.yield v true l k, yfCode it more kw, p, st⟩ = true := by
    simp [Thread.special, Thread.yieldsInsideHandler]
  have hct : collectorTurn? w.params others s ⟨.yield v true l k, yfCode it more kw, p, st⟩ = none := rfl
  have hsh : closingShows s fs (yfCode it more kw) true = false := shows_not hz hg hf
  unfold lifeStep
  rw [if_pos hsp]
  simp only [hct, hs, hsh, Bool.false_and, Bool.false_eq_true, if_false, stepCounting, hz.2]
  simp [Thread.atItsEnd, hz.2]
theorem sstep_loudYield {s : Shared} {it : Addr} {more : List Value} {kw : List (Str × Value)} {v : Value} {l : List Value} {k : Resume → Sem Fin} {p : Pos} {st fs rest : List Frame} {x : Nat × (GenResult → Sem Fin) × Code × Pos}
    (hz : s.asleep) (hs : splitAtGen st = some (fs, x, rest)) (hf : fs.any Frame.guarded = false) (hg : GenAtO s.heap it) :
    sstep den prog w (.single s ⟨.yield v true l k, yfCode it more kw, p, st⟩) = (step den prog w s ⟨.yield v true l k, yfCode it more kw, p, st⟩).lift := by
  have hm : (Config.single s ⟨.yield v true l k, yfCode it more kw, p, st⟩).moves w.params.profile = [.run 0] := by
    simp [Config.moves, Config.single, movesFrom, Thread.moves, Thread.atomic, Thread.rests, Thread.tells]
  have h1 : (Config.single s ⟨.yield v true l k, yfCode it more kw, p, st⟩).collect? w.params = none := by
    simp [Config.collect?, Config.single, (nothing_to_collect _ _ _ s ⟨.yield v true l k, yfCode it more kw, p, st⟩ hz.1).1]
  have h2 : (Config.single s ⟨.yield v true l k, yfCode it more kw, p, st⟩).collectable = [] := by
    simp [Config.collectable, Config.single, (nothing_to_collect w.params _ _ s ⟨.yield v true l k, yfCode it more kw, p, st⟩ hz.1).2]
  have hp : (Config.single s ⟨.yield v true l k, yfCode it more kw, p, st⟩).pick w = .ok (.run 0, .single s ⟨.yield v true l k, yfCode it more kw, p, st⟩) := by
    simp only [Config.pick, h1, h2, Config.pickThread, hm]
    cases w.params.lifetimes <;> simp
  have hl := lifeStep_loudYield den prog w (more := more) (kw := kw) (v := v) (l := l) (k := k) (p := p) hz hs hf hg []
  have hst : ∃ s' t', step den prog w s ⟨.yield v true l k, yfCode it more kw, p, st⟩ = .go s' t' := by
    simp only [step, hs]
    exact ⟨_, _, rfl⟩
  obtain ⟨s', t', e⟩ := hst
  have hrun : (Config.single s ⟨.yield v true l k, yfCode it more kw, p, st⟩).run den prog w 0 = .go (.single s' t') := by
    simp only [Config.run, Config.single]
    simp [others_single, Thread.finalizes, hl, e]
  simp only [sstep, hp, Config.move, hrun]
  rw [e]
  rfl

/-- behind forgetting nothing is left that cleans up -/
theorem forget_clean {s : Shared} {all : Bool} (h : ∀ k l c p fs, (GenState.suspended k l c p fs true) ∈ s.gens → closingShows s fs c true = false) : leftWithCleanup (forgetSuspended all s).gens = false := by
  unfold leftWithCleanup forgetSuspended
  rw [Array.any_eq_false']
  intro x hx
  obtain ⟨y, hy, e⟩ := Array.mem_map.mp hx
  subst e
  cases y with
  | suspended k l c p fs cl =>
    cases cl with
    | false => simp
    | true => simp [h k l c p fs hy]
  | _ => simp
theorem sstep_leaf {s : Shared} {r : Result} {c : Code} {p : Pos} (hz : s.asleep) (h : ∀ k l c p fs, (GenState.suspended k l c p fs true) ∈ s.gens → closingShows s fs c true = false) :
    ∃ s', sstep den prog w (.single s ⟨leafOf r, c, p, []⟩) = .halt (outcomeOf r) s' ∧ s'.heap = s.heap ∧ s'.os = s.os := by
  have hcalm : Thread.calm ⟨leafOf r, c, p, []⟩ = true := by cases r <;> rfl
  have hend : Thread.atItsEnd ⟨leafOf r, c, p, []⟩ = true := by cases r <;> rfl
  refine ⟨forgetSuspended (w.params.lifetimes == .anyTime) s, ?_, rfl, rfl⟩
  have hl : ∀ others, lifeStep den prog w others s ⟨leafOf r, c, p, []⟩ = .halt (outcomeOf r) (forgetSuspended (w.params.lifetimes == .anyTime) s) := fun others => by
    rw [lifeStep_calm0 den prog w others s _ hcalm hz, hend, if_pos rfl]
    have hcl := forget_clean (s := s) (all := w.params.lifetimes == .anyTime) h
    cases r with
    | ok f =>
      show finish (.done f) (forgetSuspended (w.params.lifetimes == .anyTime) s) = _
      simp only [finish, hcl, Bool.false_eq_true, if_false]
      rfl
    | error e =>
      show finish (.uncaught e) (forgetSuspended (w.params.lifetimes == .anyTime) s) = _
      simp only [finish, hcl, Bool.false_eq_true, if_false]
      rfl
  have hrun : (Config.single s ⟨leafOf r, c, p, []⟩).run den prog w 0 = .halt (outcomeOf r) (forgetSuspended (w.params.lifetimes == .anyTime) s) := by
    have h1 := hl []
    cases r with
    | ok f =>
      have h2 : lifeStep den prog w [] s ⟨.pure (.done f), c, p, []⟩ = .halt (outcomeOf (.ok f)) (forgetSuspended (w.params.lifetimes == .anyTime) s) := h1
      simp only [Config.run, Config.single, leafOf]
      simp [others_single, Thread.finalizes, h2]
    | error e =>
      have h2 : lifeStep den prog w [] s ⟨.raise e, c, p, []⟩ = .halt (outcomeOf (.error e)) (forgetSuspended (w.params.lifetimes == .anyTime) s) := h1
      simp only [Config.run, Config.single, leafOf]
      simp [others_single, Thread.finalizes, h2]
  simp only [sstep, pick_single w s _ hcalm hz.1, Config.move, hrun]
end

/-- the ghost's run comes to an end that is as wished -/
inductive Go (M : Model) (Z : Result → Shared → Prop) : List Addr → Shared → Thread → Prop
  | fin {dl : List Addr} {r : Result} {s : Shared} {c : Code} {p : Pos} : AllBare s.gens → (∀ it ∈ dl, GenAtO s.heap it) → Z r s → Go M Z dl s ⟨leafOf r, c, p, []⟩
  | step {dl : List Addr} {s s' : Shared} {t t' : Thread} : M.step s t = .go s' t' → Go M Z dl s' t' → Go M Z dl s t
  | loud {dl : List Addr} {s : Shared} {it : Addr} {more : List Value} {kw : List (Str × Value)} {v : Value} {l : List Value} {k : Resume → Sem Fin} {p p' : Pos} {st fs rest : List Frame} {g : Nat} {k' : GenResult → Sem Fin} {c' : Code} :
      splitAtGen st = some (fs, (g, k', c', p'), rest) → fs.any Frame.guarded = false → GenAtO s.heap it →
      Go M Z (it :: dl) (s.setGen g (.suspended dead l (yfCode it more kw) p fs false)) ⟨k' (.yielded v), c', p', rest⟩ →
      Go M Z dl s ⟨.yield v true l k, yfCode it more kw, p, st⟩

theorem Go.no_unsupported {M : Model} {Z : Result → Shared → Prop} {dl : List Addr} {s : Shared} {t : Thread} (h : Go M Z dl s t) {what : String} (e : t.cur = .unsupported what) : False := by
  cases h with
  | @fin _ r => cases r <;> cases e
  | step hs _ =>
    obtain ⟨cur, code, pos, st⟩ := t
    dsimp only at e
    subst e
    rw [step_unsupported] at hs
    cases hs
  | loud => cases e

theorem thread_leaf {r : Result} {c : Code} {p : Pos} {tr : Thread} (h : tr.forget = (⟨leafOf r, c, p, []⟩ : Thread).forget) : tr = ⟨leafOf r, c, p, []⟩ := by
  obtain ⟨cur, code, pos, st⟩ := tr
  simp only [Thread.forget, Thread.mk.injEq, forgetAll_nil] at h
  obtain ⟨h1, h2, h3, h4⟩ := h
  subst h1 h2 h3
  cases st with
  | nil => rfl
  | cons f st => cases h4

theorem Go.sound {M : Model} {Z : Result → Shared → Prop} {dl : List Addr} {s : Shared} {t : Thread} (h : Go M Z dl s t) :
    ∀ (sb sr : Shared) (tr : Thread), s.asleep → sb.forget = s.forget → R2 dl sb sr → tr.forget = t.forget →
      ∃ n r s' s'', schedN M.den M.prog M.w n (.single sr tr) = .halted (outcomeOf r) s'' ∧ s''.heap = s'.heap ∧ s''.os = s'.os ∧ s'.heap.life = s.heap.life ∧ Z r s' := by
  induction h with
  | @fin dl r s c p hb hd hz =>
    intro sb sr tr ha hf hr ht
    obtain rfl := thread_leaf ht
    obtain ⟨e1, e2, e3, e4, e5⟩ := Shared.forget_eq hf
    have ehr : sr.heap = s.heap := hr.heap.trans e1
    have har : sr.asleep := Shared.asleep_of_life (by rw [ehr]) ha
    obtain ⟨s'', hs, h1, h2⟩ := sstep_leaf M.den M.prog M.w (s := sr) (r := r) (c := c) (p := p) har (fun k l c p fs hm => by
      obtain ⟨i, hi, e⟩ := Array.mem_iff_getElem.mp hm
      have hib : i < sb.gens.size := by rw [← hr.size]; exact hi
      obtain ⟨y, hy, q⟩ := hr.gens i _ (Array.getElem?_eq_getElem hib)
      have hy2 : sr.gens[i]? = some (.suspended k l c p fs true) := by rw [Array.getElem?_eq_getElem hi, e]
      rw [hy] at hy2; cases hy2
      generalize hx : sb.gens[i] = x at q
      cases q with
      | same =>
        -- the ghost is bare
        have h3 : (sb.gens.map GenState.forget)[i]? = some (.suspended k l c p (forgetAll fs) true) := by
          rw [Array.getElem?_map, Array.getElem?_eq_getElem hib, hx]; rfl
        rw [e5, Array.getElem?_map] at h3
        cases h4 : s.gens[i]? with
        | none => rw [h4] at h3; cases h3
        | some z =>
          rw [h4] at h3
          have h5 : z.forget = .suspended k l c p (forgetAll fs) true := Option.some.inj h3
          have h6 := hb z (Array.mem_of_getElem? h4)
          cases z with
          | suspended k1 l1 c1 p1 fs1 cl1 =>
            simp only [GenState.forget_suspended, GenState.suspended.injEq] at h5
            rw [h5.2.2.2.2.2] at h6
            cases h6
          | _ => cases h5
      | loud m gd => exact shows_not har (by rw [ehr]; exact hd _ m) gd)
    exact ⟨1, r, s, s'', by simp only [schedN, hs], h1.trans ehr, h2.trans (hr.os.trans e4), rfl, hz⟩
  | @step dl s s1 t t1 hs hgo ih =>
    intro sb sr tr ha hf hr ht
    have hl : t.loud = false := by
      cases e : t.loud with
      | false => rfl
      | true => rw [Model.step_loud M e] at hs; cases hs
    rw [Model.step_quiet M hl] at hs
    have hcalm : t.calm = true := by
      rw [Thread.calm_eq, hl]
      cases e : t.refused with
      | false => rfl
      | true =>
        obtain ⟨what, e2⟩ := stepK_refused M.den M.prog M.w (s := s) e
        rw [e2] at hs; cases hs
    have hcr : tr.calm = true := by rw [← Thread.calm_forget tr, ht, Thread.calm_forget]; exact hcalm
    have hfg : (PySem.step M.den M.prog M.w sb tr).forget = (Step.go s1 t1).forget := by
      rw [← hs, stepK_forget]
      exact step_same M.den M.prog M.w hf ht
    cases hsb : PySem.step M.den M.prog M.w sb tr with
    | halt o s2 => rw [hsb] at hfg; cases hfg
    | go s2 t2 =>
      rw [hsb] at hfg
      simp only [Step.forget, Step.go.injEq] at hfg
      obtain ⟨f1, f2⟩ := hfg
      obtain ⟨e1, _, _, _, _⟩ := Shared.forget_eq hf
      have ehr : sr.heap = s.heap := hr.heap.trans e1
      have har : sr.asleep := Shared.asleep_of_life (by rw [ehr]) ha
      rcases step_gens M.den M.prog M.w hr hsb with ⟨b', hb, hr'⟩ | ⟨what, hw⟩
      · have hlife : s1.heap.life = s.heap.life := by
          have h1 := step_life M.den M.prog M.w sb s2 tr t2 hsb
          have h2 : s2.heap = s1.heap := (Shared.forget_eq f1).1
          rw [← h2, h1, e1]
        obtain ⟨n, r, s', s'', q1, q2, q3, q4, q5⟩ := ih s2 b' t2 (Shared.asleep_of_life hlife ha) f1 hr' f2
        have hss := (sstep_single M.den M.prog M.w sr tr hcr har).resolve_right (by rw [hb]; exact fun z => by cases z)
        refine ⟨n + 1, r, s', s'', ?_, q2, q3, q4.trans hlife, q5⟩
        simp only [schedN, hss, hb]
        exact q1
      · exfalso
        refine hgo.no_unsupported (what := what) ?_
        have : t2.forget.cur = t1.forget.cur := by rw [f2]
        exact this.symm.trans hw
  | @loud dl s it more kw v l k p p' st fs rest g k' c' hs hf0 hg hgo ih =>
    intro sb sr tr ha hf hr ht
    obtain ⟨e1, e2, e3, e4, e5⟩ := Shared.forget_eq hf
    have ehr : sr.heap = s.heap := hr.heap.trans e1
    have har : sr.asleep := Shared.asleep_of_life (by rw [ehr]) ha
    obtain ⟨cur, code, pos, str⟩ := tr
    simp only [Thread.forget, Thread.mk.injEq] at ht
    obtain ⟨h1, h2, h3, h4⟩ := ht
    subst h1 h2 h3
    have hsp := splitAtGen_forgetAll str
    rw [h4, splitAtGen_forgetAll, hs] at hsp
    cases hsr : splitAtGen str with
    | none => rw [hsr] at hsp; cases hsp
    | some x =>
      obtain ⟨fsr, xr, restr⟩ := x
      rw [hsr] at hsp
      simp only [Option.map_some, Option.some.injEq, Prod.mk.injEq] at hsp
      obtain ⟨a1, a2, a3⟩ := hsp
      subst a2
      have hfr : fsr.any Frame.guarded = false := by rw [← any_guarded_forgetAll, ← a1, any_guarded_forgetAll]; exact hf0
      have hss := sstep_loudYield M.den M.prog M.w (s := sr) (it := it) (more := more) (kw := kw) (v := v) (l := l) (k := k) (p := pos) har hsr hfr (by rw [ehr]; exact hg)
      have hst : PySem.step M.den M.prog M.w sr ⟨.yield v true l k, yfCode it more kw, pos, str⟩ = .go (sr.setGen g (.suspended k l (yfCode it more kw) pos fsr true)) ⟨k' (.yielded v), c', p', restr⟩ := by
        simp only [PySem.step, hsr, Bool.true_or]
        rfl
      have hr1 : R2 (it :: dl) sb sr := hr.mono fun _ h => List.mem_cons_of_mem _ h
      have hr2 : R2 (it :: dl) (sb.setGen g (.suspended dead l (yfCode it more kw) pos fsr false)) (sr.setGen g (.suspended k l (yfCode it more kw) pos fsr true)) := by
        have q := hr1.set g (x := .suspended dead l (yfCode it more kw) pos fsr false) (y := .suspended k l (yfCode it more kw) pos fsr true) (.loud List.mem_cons_self hfr) (h := sb.heap) (d := sb.drawn) (t := sb.toks) (o := sb.os)
        have z : sr.setGen g (.suspended k l (yfCode it more kw) pos fsr true) = { heap := sb.heap, gens := sr.gens.setIfInBounds g (.suspended k l (yfCode it more kw) pos fsr true), drawn := sb.drawn, toks := sb.toks, os := sb.os } := by
          simp only [Shared.setGen, hr.heap, hr.drawn, hr.toks, hr.os]
        rw [z]
        exact q
      have hfb : (sb.setGen g (.suspended dead l (yfCode it more kw) pos fsr false)).forget = (s.setGen g (.suspended dead l (yfCode it more kw) pos fs false)).forget := by
        simp only [Shared.setGen, Shared.forget, Array.map_setIfInBounds, GenState.forget_suspended, e1, e2, e3, e4, a1]
        rw [e5]
      obtain ⟨n, r, s', s'', q1, q2, q3, q4, q5⟩ := ih _ _ ⟨k' (.yielded v), c', p', restr⟩ ha hfb hr2 (by simp [Thread.forget, a3])
      refine ⟨n + 1, r, s', s'', ?_, q2, q3, q4, q5⟩
      simp only [schedN, hss, hst]
      exact q1
end GG
/-! G3: wpG, a reading of trees over the ghost's runs; what the library proves of a tree goes over. -/
namespace GG
open PySem PyProof.Rows
open Sem (wp)

abbrev GPost (α : Type) := α → Shared → List Addr → Prop
abbrev GY := Value → Shared → List Addr → Prop
def NoY : GY := fun _ _ _ => False

/-- the owner of the generator that runs on this stack goes on as wished where an item is handed out -/
def YOk (M : Model) (Z : Result → Shared → Prop) (Y : GY) (st : List Frame) : Prop :=
  ∀ v s dl, Y v s dl → ∃ fs g k c p rest, splitAtGen st = some (fs, (g, k, c, p), rest) ∧ fs.any Frame.guarded = false ∧ ∀ x : GenState, x.bare = true → Go M Z dl (s.setGen g x) ⟨k (.yielded v), c, p, rest⟩
theorem YOk.none {M : Model} {Z : Result → Shared → Prop} {st : List Frame} : YOk M Z NoY st := fun _ _ _ h => h.elim
theorem YOk.push {M : Model} {Z : Result → Shared → Prop} {Y : GY} {st : List Frame} {k : Result → Sem PySem.Fin} {h : Option Value} {l kp : List Value} {c : Code} {p : Pos} (y : YOk M Z Y st) : YOk M Z Y (.ret k h false l c p kp :: st) := by
  intro v s dl hv
  obtain ⟨fs, g, k', c', p', rest, h1, h2, h3⟩ := y v s dl hv
  refine ⟨.ret k h false l c p kp :: fs, g, k', c', p', rest, by rw [splitAtGen_ret, h1]; rfl, ?_, h3⟩
  show (false || fs.any Frame.guarded) = false
  rw [h2]; rfl
def GdOk (gd : Bool → Bool) (Y : GY) : Prop := (gd false = false ∧ gd true = true) ∨ ∀ v s dl, ¬ Y v s dl

def wpG {α : Type} (M : Model) (Z : Result → Shared → Prop) (A : Around) (Y : GY) (c : Code) (t : Sem α) (Q : GPost α) (E : GPost Value) (dl : List Addr) (s : Shared) : Prop :=
  ∀ (K : α → Sem PySem.Fin) (J : Value → Sem PySem.Fin) (gd : Bool → Bool) (lv : List Value → List Value) (st : List Frame), (Ctx.of c st).In A → GdOk gd Y → YOk M Z Y st →
    (∀ a p s' dl', Q a s' dl' → Go M Z dl' s' ⟨K a, c, p, st⟩) → (∀ x p s' dl', E x s' dl' → Go M Z dl' s' ⟨J x, c, p, st⟩) → ∀ p, Go M Z dl s ⟨t.wrap K J gd lv, c, p, st⟩
def codeG (M : Model) (Z : Result → Shared → Prop) (A : Around) (Y : GY) (c : Code) (R : GPost Result) (dl : List Addr) (s : Shared) : Prop :=
  ∀ (st : List Frame), (Ctx.of c st).Below A → YOk M Z Y st → (∀ r c' p s' dl', R r s' dl' → Go M Z dl' s' ⟨leafOf r, c', p, st⟩) → ∀ p, Go M Z dl s ⟨M.den c, c, p, st⟩

section
variable {M : Model} {Z : Result → Shared → Prop} {dl : List Addr}
/-- a run of the library's machine is a part of the ghost's -/
theorem reach_go {base : List Frame} {s s' : Shared} {t : Sem PySem.Fin} {c : Code} {p : Pos} {pre : List Frame} {e : End} (h : Reach M base s t c p pre s' e) :
    (∀ t' c' p' pre', Exits e t' c' p' pre' → Go M Z dl s' ⟨t', c', p', pre' ++ base⟩) → Go M Z dl s ⟨t, c, p, pre ++ base⟩ := by
  induction h with
  | exit hx => intro hk; exact hk _ _ _ _ hx
  | step hs _ ih => intro hk; exact .step hs (ih hk)
theorem returns_go {base : List Frame} {s s' : Shared} {c : Code} {p : Pos} {r : Result} {Γ : Ctx} (h : Returns M Γ p s r s') (hf : Γ.Fits base) (hk : ∀ c' p', Go M Z dl s' ⟨leafOf r, c', p', base⟩) (hc : Γ.code = c) : Go M Z dl s ⟨M.den c, c, p, base⟩ := by
  subst hc
  have := reach_go (Z := Z) (dl := dl) (runs_reach h base hf) fun t' c' p' pre' hx => by
    obtain ⟨rfl, rfl⟩ := hx
    exact hk c' p'
  exact this
theorem go_of_wp {α : Type} {K : α → Sem PySem.Fin} {J : Value → Sem PySem.Fin} {gd : Bool → Bool} {lv : List Value → List Value} {c : Code} {st : List Frame} (t : Sem α) :
    ∀ {Q : α → Pos → Shared → Prop} {E : Value → Pos → Shared → Prop} {p : Pos} {s : Shared}, wp M (Ctx.of c st) t Q E p s → (∀ a p' s', Q a p' s' → Go M Z dl s' ⟨K a, c, p', st⟩) → (∀ x p' s', E x p' s' → Go M Z dl s' ⟨J x, c, p', st⟩) →
      Go M Z dl s ⟨t.wrap K J gd lv, c, p, st⟩ := by
  induction t with
  | pure a => intro Q E p s h hQ _; exact hQ a p s h
  | raise x => intro Q E p s h _ hE; exact hE x p s h
  | unsupported _ => intro Q E p s h; exact h.elim
  | finish _ => intro Q E p s h; exact h.elim
  | register _ _ => intro Q E p s h; exact h.elim
  | yield _ _ _ _ => intro Q E p s h; exact h.elim
  | fork _ _ => intro Q E p s h; exact h.elim
  | await _ _ _ _ _ => intro Q E p s h; exact h.elim
  | rule tag k ih => intro Q E p s h hQ hE; exact .step (step_rule ..) (ih () h hQ hE)
  | «at» p' k ih => intro Q E p s h hQ hE; exact .step (step_at ..) (ih () h hQ hE)
  | load a part k ih => intro Q E p s h hQ hE; obtain ⟨o, ho, h⟩ := h; exact .step (step_load M s c p st part _ ho) (ih o h hQ hE)
  | update a part f k ih => intro Q E p s h hQ hE; exact .step (step_update M s c p st part f _ h.1) (ih () h.2 hQ hE)
  | alloc o k ih => intro Q E p s h hQ hE; exact .step (step_alloc ..) (ih _ h hQ hE)
  | loadIfAlive a k ih => intro Q E p s h hQ hE; exact .step (step_loadIfAlive ..) (ih _ h hQ hE)
  | point l k ih => intro Q E p s h hQ hE; exact .step (step_point ..) (ih () h hQ hE)
  | fresh k ih => intro Q E p s h hQ hE; exact .step (step_fresh ..) (ih _ h hQ hE)
  | ask k ih => intro Q E p s h hQ hE; exact .step (step_ask ..) (ih _ h hQ hE)
  | choose src n k ih => intro Q E p s h hQ hE; exact .step (step_choose M s c p st src _ h.1) (ih _ h.2 hQ hE)
  | os q l k ih => intro Q E p s h hQ hE; exact .step (step_os ..) (ih _ h hQ hE)
  | handled own k ih => intro Q E p s h hQ hE; refine .step (step_handled ..) ?_; cases own <;> exact ih _ h hQ hE
  | newGen c' k ih => intro Q E p s h hQ hE; exact .step (step_newGen ..) (ih _ h hQ hE)
  | genState g k ih => intro Q E p s h hQ hE; obtain ⟨x, hx, h⟩ := h; exact .step (step_genState M s c p st _ hx) (ih _ h hQ hE)
  | stack k ih => intro Q E p s h hQ hE; exact .step (step_stack ..) (ih _ h hQ hE)
  | thread k ih => intro Q E p s h hQ hE; exact .step (step_thread ..) (ih _ h hQ hE)
  | call c' h g l k ih =>
    intro Q E p s hw hQ hE
    obtain ⟨r, s1, hr, hw⟩ := hw
    refine .step (step_call ..) ?_
    exact returns_go hr (Ctx.Fits.enter (Ctx.fits_of c st) c' _ h (gd g) (lv l) p []) (fun c'' p'' => .step (step_leaf_ret ..) (ih r hw hQ hE)) rfl
  | resume g r l k ih =>
    intro Q E p s hw hQ hE
    obtain ⟨res, s1, hk, hw⟩ := hw
    unfold Wakes at hk
    cases hg : s.gens[g]? with
    | none => simp only [hg] at hk
    | some gs =>
      simp only [hg] at hk
      cases gs with
      | fresh c0 =>
        cases r with
        | send v =>
          by_cases hv : v = .none
          · subst hv
            obtain ⟨e1, s2, hr, hq, rfl, rfl⟩ := hk
            refine .step (step_resume_fresh M s c p st _ _ hg) ?_
            have := reach_go (Z := Z) (dl := dl) (runs_reach hr _ (Ctx.Fits.wake (Ctx.fits_of c st) c0 g (fun x => (k x).wrap K J gd lv) (lv l) p)) fun t' c' p' pre' hx => .step (step_exit_gen (M := M) s2 g _ _ c p st hx hq) (ih _ hw hQ hE)
            exact this
          · have hk' : res = .justStarted ∧ s1 = s := by cases v <;> first | exact absurd rfl hv | exact hk
            obtain ⟨rfl, rfl⟩ := hk'
            exact .step (step_resume_justStarted M s1 c p st _ _ hg hv) (ih _ hw hQ hE)
        | throw x =>
          obtain ⟨rfl, rfl⟩ := hk
          exact .step (step_resume_throwFresh M s c p st x _ _ hg) (ih _ hw hQ hE)
      | suspended k0 l0 c0 p0 fs cl =>
        obtain ⟨e1, s2, hr, hq, rfl, rfl⟩ := hk
        refine .step (step_resume_suspended M s c p st r _ _ hg) ?_
        have := reach_go (Z := Z) (dl := dl) (runs_reach hr _ (Ctx.Fits.wake (Ctx.fits_of c st) c0 g (fun x => (k x).wrap K J gd lv) (lv l) p)) fun t' c' p' pre' hx => .step (step_exit_gen (M := M) s2 g _ _ c p st hx hq) (ih _ hw hQ hE)
        exact this
      | running => obtain ⟨rfl, rfl⟩ := hk; exact .step (step_resume_running M s1 c p st r _ _ hg) (ih _ hw hQ hE)
      | finished => obtain ⟨rfl, rfl⟩ := hk; exact .step (step_resume_finished M s1 c p st r _ _ hg) (ih _ hw hQ hE)
end

section
variable {α β : Type} {M : Model} {Z : Result → Shared → Prop} {A : Around} {Y : GY} {c : Code} {E : GPost Value} {dl : List Addr} {s : Shared}
/-- what the library says of a tree -/
theorem wpG_of {t : Sem α} {Q : GPost α} (h : wpAny M A t (fun a s' => Q a s' dl) (fun x s' => E x s' dl) s) : wpG M Z A Y c t Q E dl s :=
  fun K J gd lv st hin _ _ hQ hE p => go_of_wp t (h (Ctx.of c st) p hin) (fun a p' s' q => hQ a p' s' dl q) fun x p' s' q => hE x p' s' dl q
theorem wpG_pure {a : α} {Q : GPost α} (h : Q a s dl) : wpG M Z A Y c (pure a) Q E dl s := fun _ _ _ _ _ _ _ _ hQ _ p => hQ a p s dl h
theorem wpG_throw {x : Value} {Q : GPost α} (h : E x s dl) : wpG M Z A Y c (throw x : Sem α) Q E dl s := fun _ _ _ _ _ _ _ _ _ hE p => hE x p s dl h
theorem wpG_mono {t : Sem α} {Q Q' : GPost α} {E' : GPost Value} (h : wpG M Z A Y c t Q E dl s) (hQ : ∀ a s dl, Q a s dl → Q' a s dl) (hE : ∀ a s dl, E a s dl → E' a s dl) : wpG M Z A Y c t Q' E' dl s :=
  fun K J gd lv st hin hg hy kQ kE p => h K J gd lv st hin hg hy (fun a p s' dl' q => kQ a p s' dl' (hQ _ _ _ q)) (fun a p s' dl' q => kE a p s' dl' (hE _ _ _ q)) p
theorem wpG_thn {t : Sem α} {Q Q' : GPost α} (h : wpG M Z A Y c t Q E dl s) (hQ : ∀ a s dl, Q a s dl → Q' a s dl) : wpG M Z A Y c t Q' E dl s := wpG_mono h hQ fun _ _ _ x => x
/-- less may be handed out -/
theorem wpG_noY {t : Sem α} {Q : GPost α} (h : wpG M Z A NoY c t Q E dl s) : wpG M Z A Y c t Q E dl s :=
  fun K J gd lv st hin _ _ hQ hE p => h K J gd lv st hin (.inr fun _ _ _ z => z) .none hQ hE p
theorem wpG_bind {m : Sem α} {f : α → Sem β} {Q : GPost β} (h : wpG M Z A Y c m (fun a s' dl' => wpG M Z A Y c (f a) Q E dl' s') E dl s) : wpG M Z A Y c (m >>= f) Q E dl s := by
  intro K J gd lv st hin hg hy hQ hE p
  rw [Sem.bind_eq_wrap', Sem.wrap_wrap]
  exact h _ _ _ _ st hin hg hy (fun a p' s' dl' q => q K J gd lv st hin hg hy hQ hE p') hE p
theorem wpG_onRaise {m : Sem α} {k : Value → Sem Unit} {Q : GPost α} (h : wpG M Z A Y c m Q (fun x s' dl' => wpG M Z A Y c (k x) (fun _ s'' dl'' => E x s'' dl'') E dl' s') dl s) : wpG M Z A Y c (m.onRaise k) Q E dl s := by
  intro K J gd lv st hin hg hy hQ hE p
  rw [Sem.onRaise_eq_wrap, Sem.wrap_wrap]
  refine h _ _ _ _ st hin hg hy hQ (fun x p' s' dl' q => ?_) p
  show Go M Z dl' s' ⟨((k x).bind fun _ => (.raise x : Sem α)).wrap K J gd lv, c, p', st⟩
  rw [Sem.bind_eq_wrap, Sem.wrap_wrap]
  exact q _ _ _ _ st hin hg hy (fun _ p2 s2 dl2 q2 => hE x p2 s2 dl2 q2) (fun y p2 s2 dl2 q2 => hE y p2 s2 dl2 q2) p'
theorem wpG_tryCatch {m : Sem α} {k : Value → Sem α} {Q : GPost α} (h : wpG M Z A NoY c m Q (fun x s' dl' => wpG M Z A NoY c (k x) Q E dl' s') dl s) : wpG M Z A Y c (m.tryCatch k) Q E dl s := by
  intro K J gd lv st hin hg hy hQ hE p
  rw [Sem.tryCatch_eq_wrap, Sem.wrap_wrap]
  exact h _ _ _ _ st hin (.inr fun _ _ _ z => z) .none hQ (fun x p' s' dl' q => q K J gd lv st hin (.inr fun _ _ _ z => z) .none hQ hE p') p
theorem wpG_attempt {m : Sem α} {Q : GPost (Except Value α)} (h : wpG M Z A NoY c m (fun a => Q (.ok a)) (fun x => Q (.error x)) dl s) : wpG M Z A Y c m.attempt Q E dl s := by
  unfold Sem.attempt
  refine wpG_tryCatch ?_
  show wpG M Z A NoY c (m >>= fun a => (.pure (.ok a) : Sem (Except Value α))) _ _ dl s
  refine wpG_bind (wpG_mono h (fun a s' dl' q => wpG_pure (E := fun x s' dl' => wpG M Z A NoY c (Sem.pure (.error x)) Q E dl' s') q) fun x s' dl' q => wpG_pure q)
theorem wpG_keep {vs : List Value} {m : Sem α} {Q : GPost α} (h : wpG M Z A Y c m Q E dl s) : wpG M Z A Y c (m.keep vs) Q E dl s := by
  intro K J gd lv st hin hg hy hQ hE p
  rw [Sem.keep_eq_wrap, Sem.wrap_wrap]
  exact h _ _ _ _ st hin hg hy hQ hE p
theorem wpG_holding {vs : List Value} {m : Sem α} {Q : GPost α} (h : wpG M Z A Y c m Q E dl s) : wpG M Z A Y c (holding vs m) Q E dl s := by
  rw [holding_eq_keep]
  exact wpG_keep h
theorem wpG_standAt {pos : Pos} {Q : GPost Unit} (h : Q () s dl) : wpG M Z A Y c (standAt pos) Q E dl s := wpG_of (wpAny_standAt h)
theorem wpG_rule {tag : String} {Q : GPost Unit} (h : Q () s dl) : wpG M Z A Y c (rule tag) Q E dl s := wpG_of (wpAny_rule h)
theorem wpG_of_eq {t : Sem α} {a : α} {Q : GPost α} (e : t = pure a) (h : Q a s dl) : wpG M Z A Y c t Q E dl s := by rw [e]; exact wpG_pure h

/-! ### calls -/
theorem below_of {c' : Code} {st : List Frame} {k : Result → Sem PySem.Fin} {g : Bool} {l : List Value} {p : Pos} (h : (Ctx.of c st).In A) : (Ctx.of c' (.ret k none g l c p [] :: st)).Below A := by
  have e : Ctx.of c' (.ret k none g l c p [] :: st) = (Ctx.of c st).enter c' none p := by
    have f1 := Ctx.fits_of c' (.ret k none g l c p [] :: st)
    have f2 := Ctx.Fits.enter (Ctx.fits_of c st) c' k none g l p []
    show (⟨c', topHandled _, topHandled _, _, _⟩ : Ctx) = ⟨c', _, _, _, _⟩
    rw [Ctx.mk.injEq]
    exact ⟨rfl, f2.handled.symm, f2.own.symm, rfl, f2.past.symm⟩
  rw [e]
  exact h.enter c' none p (by intro x; cases x)
theorem wpG_callNode {c' : Code} {g : Bool} {l : List Value} {k : Result → Sem α} {Q : GPost α} (hc : codeG M Z A NoY c' (fun r s' dl' => wpG M Z A Y c (k r) Q E dl' s') dl s) : wpG M Z A Y c (.call c' none g l k) Q E dl s := by
  intro K J gd lv st hin hg hy hQ hE p
  refine .step (step_call ..) (hc _ (below_of hin) .none (fun r c2 p2 s' dl' q => .step (step_leaf_ret ..) (q K J gd lv st hin hg hy hQ hE p)) p)
/-- a call of the generator's own code (a loop's): it may hand out -/
theorem wpG_callOwn {c' : Code} {l : List Value} {k : Result → Sem α} {Q : GPost α} (hc : codeG M Z A Y c' (fun r s' dl' => wpG M Z A Y c (k r) Q E dl' s') dl s) : wpG M Z A Y c (.call c' none false l k) Q E dl s := by
  intro K J gd lv st hin hg hy hQ hE p
  refine .step (step_call ..) (hc _ (below_of hin) ?_ (fun r c2 p2 s' dl' q => .step (step_leaf_ret ..) (q K J gd lv st hin hg hy hQ hE p)) p)
  rcases hg with ⟨h, _⟩ | h
  · rw [h]; exact hy.push
  · exact fun v s' dl' z => (h v s' dl' z).elim
theorem wpG_runValue {c' : Code} {Q : GPost Value} (hc : codeG M Z A NoY c' (fun r s' dl' => match r with | .ok (.ret v) => Q v s' dl' | .ok _ => False | .error e => E e s' dl') dl s) : wpG M Z A Y c (runValue c') Q E dl s := by
  unfold runValue run
  refine wpG_bind (wpG_callNode ?_)
  intro st hb hy hR p
  refine hc st hb hy (fun r c2 p2 s' dl' q => hR r c2 p2 s' dl' ?_) p
  cases r with
  | ok f =>
    cases f with
    | ret v => exact wpG_pure (wpG_pure q)
    | next => exact q.elim
    | brk => exact q.elim
    | cont => exact q.elim
  | error e => exact wpG_throw q
theorem wpG_call {f : Value} {us : List Value} {kw : List (Str × Value)} {Q : GPost Value} (hc : codeG M Z A NoY (.call f ⟨us, kw⟩) (fun r s' dl' => match r with | .ok (.ret v) => Q v s' dl' | .ok _ => False | .error e => E e s' dl') dl s) :
    wpG M Z A Y c (call f us kw) Q E dl s := wpG_runValue hc
theorem codeG_mono {c' : Code} {R R' : GPost Result} (h : codeG M Z A Y c' R dl s) (hR : ∀ r s dl, R r s dl → R' r s dl) : codeG M Z A Y c' R' dl s :=
  fun st hb hy hk p => h st hb hy (fun r c2 p2 s' dl' q => hk r c2 p2 s' dl' (hR _ _ _ q)) p
theorem wrap_id (t : Sem α) : t.wrap Sem.pure Sem.raise id id = t := by
  induction t <;> simp only [Sem.wrap, id, *]
theorem codeG_of_tree {c' : Code} {R : GPost Result} (h : wpG M Z (A.under c') Y c' (M.den c') (fun fin s' dl' => match fin with | .done f => R (.ok f) s' dl' | .again c2 => c2.quiet = true ∧ codeG M Z A Y c2 R dl' s') (fun x s' dl' => R (.error x) s' dl') dl s) :
    codeG M Z A Y c' R dl s := by
  intro st hb hy hk p
  have q := h Sem.pure Sem.raise id id st hb.in (.inl ⟨rfl, rfl⟩) hy (fun fin p' s' dl' q => ?_) (fun x p' s' dl' q => hk (.error x) _ _ _ _ q) p
  · rw [wrap_id] at q; exact q
  · cases fin with
    | done f => exact hk (.ok f) _ _ _ _ q
    | again c2 => exact .step (step_again M s' c' p' st c2 q.1) (q.2 st hb hy hk p')
/-- what the library says of a code -/
theorem codeG_of {c' : Code} {R : GPost Result} (h : codeAny M A c' (fun r s' => R r s' dl) s) : codeG M Z A Y c' R dl s := by
  intro st hb hy hk p
  obtain ⟨r, s', hr, q⟩ := h (Ctx.of c' st) p rfl hb
  exact returns_go hr (Ctx.fits_of c' st) (fun c2 p2 => hk r c2 p2 s' dl q) rfl
end
end GG
/-! G4: the judgements over the ghost's runs: expressions, tests, statements; calls of defs. -/
namespace GG
open PySem
open PySem.Spec
open PyProof.Rows
open L2

/-! ### generators that sleep for ever -/
def Dd (H : Hp) (s : Shared) (dl : List Addr) : Prop := ∀ it ∈ dl, ∃ o, s.heap.get? it = some o ∧ o.genNumber?.isSome = true ∧ H it = none
theorem genNumber_fields {o : Obj} (h : o.genNumber?.isSome = true) : ∃ vs, o.data = .fields vs := by
  obtain ⟨cls, dict, data, slots⟩ := o
  cases data with
  | fields vs => exact ⟨vs, rfl⟩
  | _ => exact absurd h (by simp [Obj.genNumber?])
theorem Dd.gen {H : Hp} {s : Shared} {dl : List Addr} (d : Dd H s dl) : ∀ it ∈ dl, GenAtO s.heap it := fun it hi => let ⟨o, h1, h2, _⟩ := d it hi; ⟨o, h1, h2⟩
theorem Dd.nil {H : Hp} {s : Shared} : Dd H s [] := fun _ h => by simp at h
section
variable {X : Cx} {pins : List (Addr × Obj)} {σ σ' : L2.St} {H H' : Hp} {s s' : Shared} {dl : List Addr}
theorem pinDd (I : Inv X pins σ H s) (d : Dd H s dl) : Inv X (pins ++ pinsAt dl s.heap) σ H s := I.pins_of fun p hp => (List.mem_append.mp hp).elim (fun z => I.pin p (List.mem_append_right _ z)) fun z => by
  obtain ⟨hb, e⟩ := of_pinsAt z
  obtain ⟨o, ho, hg, hn⟩ := d p.1 hb
  rw [e] at ho; cases ho
  obtain ⟨vs, hd⟩ := genNumber_fields hg
  refine ⟨e, hn, fun q => ?_, fun q => ?_, fun v q => by rw [hd] at q; cases q⟩
  · obtain ⟨m, ⟨oL, es, ep, hoL, hdL, _⟩, _⟩ := I.loc
    rw [q, hoL] at e
    cases e
    rw [hd] at hdL; cases hdL
  · obtain ⟨_, oL, hoL, hdL⟩ := I.funs.mem q
    rw [hoL] at e
    cases e
    exact hdL vs hd
theorem unpinDd (d : Dd H s dl) (I : Inv X (pins ++ pinsAt dl s.heap) σ' H' s') : Inv X pins σ' H' s' ∧ Dd H' s' dl := by
  refine ⟨I.unpinned, fun it hi => ?_⟩
  obtain ⟨o, ho, hg, _⟩ := d it hi
  obtain ⟨e1, e2, _⟩ := I.pin (it, o) (List.mem_append_right _ (List.mem_append_right _ (mem_pinsAt hi ho)))
  exact ⟨o, e1, hg, e2⟩
/-- over a call: what is untracked stays -/
theorem Dd.un {fs : List Addr} {dl2 : List Addr} (d : Dd H s dl) (hf : ∀ b ∈ fs, ∃ o, s.heap.get? b = some o ∧ ∀ vs, o.data ≠ .fields vs) (u : Un fs [] H H' s.heap s'.heap) : Dd H' s' dl := fun it hi => by
  obtain ⟨o, ho, hg, hn⟩ := d it hi
  have hnf : it ∉ fs := fun z => by
    obtain ⟨o2, h2, h3⟩ := hf it z
    rw [ho] at h2; cases h2
    obtain ⟨vs, hd⟩ := genNumber_fields hg
    exact h3 vs hd
  exact ⟨o, u.keep it o ho hn hnf (by simp), hg, u.free it o ho hn (by simp)⟩
end

/-! ### judgements -/
section
variable (Z : Result → Shared → Prop) (X : Cx)
def EPg (pins : List (Addr × Obj)) (σ : L2.St) (Q : VK) : GPost Value := fun u s dl => ∃ v H', Inv X pins σ H' s ∧ Dd H' s dl ∧ RelV v u ∧ Q v H'
def TPg (pins : List (Addr × Obj)) (σ : L2.St) (Q : Bool → Hp → Prop) : GPost Bool := fun b s dl => ∃ H', Inv X pins σ H' s ∧ Dd H' s dl ∧ Q b H'
def SPg (pins : List (Addr × Obj)) (D : Ends) : GPost Flow := fun f s dl => match f with
  | .next => ∃ σ' H', Inv X pins σ' H' s ∧ Dd H' s dl ∧ D.nx σ' H'
  | .brk => ∃ σ' H', Inv X pins σ' H' s ∧ Dd H' s dl ∧ D.bk σ' H'
  | .cont => ∃ σ' H', Inv X pins σ' H' s ∧ Dd H' s dl ∧ D.ct σ' H'
  | .ret u => ∃ v σ' H', Inv X pins σ' H' s ∧ Dd H' s dl ∧ RelV v u ∧ D.rt v H'
abbrev XEg : GPost Value := fun x s _ => X.xe x s
def YX (yl : VK) : GY := fun v s dl => ∃ x pins σ H', Inv X pins σ H' s ∧ Dd H' s dl ∧ RelV x v ∧ yl x H'
structure PEg (e : Expr) (t : TE) : Prop where
  run : ∀ (c : Code) (pins : List (Addr × Obj)) (s : Shared) (dl : List Addr) (σ : L2.St) (H : Hp) (Q : VK), Inv X pins σ H s → Dd H s dl → t σ H Q → wpG (model X.prog X.w) Z X.A NoY c (eval e X.env) (EPg X pins σ Q) (XEg X) dl s
structure PTg (e : Expr) (t : TT) : Prop where
  run : ∀ (c : Code) (pins : List (Addr × Obj)) (s : Shared) (dl : List Addr) (σ : L2.St) (H : Hp) (Q : Bool → Hp → Prop), Inv X pins σ H s → Dd H s dl → t σ H Q → wpG (model X.prog X.w) Z X.A NoY c (isTrue e X.env (eval e X.env)) (TPg X pins σ Q) (XEg X) dl s
structure PWg (e : Expr) (t : TT) : Prop where
  run : ∀ (whole : Sem Value) (c : Code) (pins : List (Addr × Obj)) (s : Shared) (dl : List Addr) (σ : L2.St) (H : Hp) (Q : Bool → Hp → Prop), Inv X pins σ H s → Dd H s dl → t σ H Q → wpG (model X.prog X.w) Z X.A NoY c (isTrue e X.env whole) (TPg X pins σ Q) (XEg X) dl s
abbrev TSg := Ends → VK → L2.St → Hp → Prop
structure PSg (st : Stmt) (t : TSg) : Prop where
  run : ∀ (c : Code) (pins : List (Addr × Obj)) (s : Shared) (dl : List Addr) (σ : L2.St) (H : Hp) (D : Ends) (yl : VK), Inv X pins σ H s → Dd H s dl → t D yl σ H → wpG (model X.prog X.w) Z X.A (YX X yl) c (exec st X.env) (SPg X pins D) (XEg X) dl s
structure PSsg (st : List Stmt) (t : TSg) : Prop where
  run : ∀ (c : Code) (pins : List (Addr × Obj)) (s : Shared) (dl : List Addr) (σ : L2.St) (H : Hp) (D : Ends) (yl : VK), Inv X pins σ H s → Dd H s dl → t D yl σ H → wpG (model X.prog X.w) Z X.A (YX X yl) c (execs st X.env) (SPg X pins D) (XEg X) dl s
end

section
variable {Z : Result → Shared → Prop} {X : Cx} {e a b : Expr} {te ta tb : TE} {tt tu : TT} {pos : Pos}
theorem PWg.pt (h : PWg Z X e tt) : PTg Z X e tt := ⟨h.run _⟩
/-! ### what HandS proves -/
theorem peg_of (h : PE X e te) : PEg Z X e te := ⟨fun c pins s dl σ H Q I d ht => wpG_of (wpAny_mono (h.run _ s σ H Q (pinDd I d) ht) (fun u s' ⟨v, H', I', r, q⟩ => ⟨v, H', (unpinDd d I').1, (unpinDd d I').2, r, q⟩) fun _ _ x => x)⟩
theorem ptg_of (h : PT X e tt) : PTg Z X e tt := ⟨fun c pins s dl σ H Q I d ht => wpG_of (wpAny_mono (h.run _ s σ H Q (pinDd I d) ht) (fun u s' ⟨H', I', q⟩ => ⟨H', (unpinDd d I').1, (unpinDd d I').2, q⟩) fun _ _ x => x)⟩
theorem sp_spg {pins : List (Addr × Obj)} {H : Hp} {s s' : Shared} {dl : List Addr} {D : Ends} {f : Flow} (d : Dd H s dl) (h : SP X (pins ++ pinsAt dl s.heap) D f s') : SPg X pins D f s' dl := by
  cases f with
  | next => obtain ⟨σ', H', I', q⟩ := h; exact ⟨σ', H', (unpinDd d I').1, (unpinDd d I').2, q⟩
  | brk => obtain ⟨σ', H', I', q⟩ := h; exact ⟨σ', H', (unpinDd d I').1, (unpinDd d I').2, q⟩
  | cont => obtain ⟨σ', H', I', q⟩ := h; exact ⟨σ', H', (unpinDd d I').1, (unpinDd d I').2, q⟩
  | ret u => obtain ⟨v, σ', H', I', r, q⟩ := h; exact ⟨v, σ', H', (unpinDd d I').1, (unpinDd d I').2, r, q⟩
def tQ (t : TS) : TSg := fun D _ σ H => t D σ H
theorem psg_of {st : Stmt} {t : TS} (h : PS X st t) : PSg Z X st (tQ t) := ⟨fun c pins s dl σ H D yl I d ht => wpG_of (wpAny_mono (h.run _ s σ H D (pinDd I d) ht) (fun f s' q => sp_spg d q) fun _ _ x => x)⟩
theorem pssg_of {st : List Stmt} {t : TS} (h : PSs X st t) : PSsg Z X st (tQ t) := ⟨fun c pins s dl σ H D yl I d ht => wpG_of (wpAny_mono (h.run _ s σ H D (pinDd I d) ht) (fun f s' q => sp_spg d q) fun _ _ x => x)⟩

/-! ### blocks -/
def tSeqG (t u : TSg) : TSg := fun D yl σ H => t { D with nx := u D yl } yl σ H
theorem pssg_nil : PSsg Z X [] (tQ tNext) := pssg_of pss_nil
theorem execs_bind (st : Stmt) (rest : List Stmt) (env : Env) : execs (st :: rest) env = (exec st env >>= fun f => match f with | .next => execs rest env | f => pure f) := by
  rw [execs_cons]; rfl
theorem pssg_cons {st : Stmt} {rest : List Stmt} {t u : TSg} (h1 : PSg Z X st t) (h2 : PSsg Z X rest u) : PSsg Z X (st :: rest) (tSeqG t u) := by
  refine ⟨fun c pins s dl σ H D yl I d ht => ?_⟩
  rw [execs_bind]
  refine wpG_bind (wpG_thn (h1.run c pins s dl σ H { D with nx := u D yl } yl I d ht) fun f s1 dl1 q => ?_)
  cases f with
  | next =>
    obtain ⟨σ', H', I', d', q⟩ := q
    exact h2.run c pins s1 dl1 σ' H' D yl I' d' q
  | ret v => exact wpG_pure q
  | brk => exact wpG_pure q
  | cont => exact wpG_pure q
theorem pssg_one {st : Stmt} {t : TSg} (h1 : PSg Z X st t) : PSsg Z X [st] t := by
  refine ⟨fun c pins s dl σ H D yl I d ht => ?_⟩
  rw [execs_bind]
  refine wpG_bind (wpG_thn (h1.run c pins s dl σ H D yl I d ht) fun f s1 dl1 q => ?_)
  cases f with
  | next => exact wpG_of (wpAny_execs_nil q)
  | ret v => exact wpG_pure q
  | brk => exact wpG_pure q
  | cont => exact wpG_pure q
def tIfG (c : TT) (t u : TSg) : TSg := fun D yl σ H => c σ H fun b H1 => if b = true then t D yl σ H1 else u D yl σ H1
theorem psg_if {c : Expr} {x y : List Stmt} {tc : TT} {t u : TSg} (hc : PTg Z X c tc) (ha : PSsg Z X x t) (hb : PSsg Z X y u) : PSg Z X (.If c x y pos) (tIfG tc t u) := by
  refine ⟨fun cd pins s dl σ H D yl I d ht => ?_⟩
  rw [exec_If]
  refine wpG_bind (wpG_standAt (wpG_bind (wpG_noY (wpG_thn (hc.run cd pins s dl σ H _ I d ht) fun k s1 dl1 ⟨H1, I1, d1, q1⟩ => ?_))))
  cases k with
  | true => exact ha.run cd pins s1 dl1 σ H1 D yl I1 d1 q1
  | false => exact hb.run cd pins s1 dl1 σ H1 D yl I1 d1 q1
def tRetG (t : TE) : TSg := fun D _ σ H => t σ H D.rt
theorem psg_ret (he : PEg Z X e te) : PSg Z X (.Return (some e) pos) (tRetG te) := by
  refine ⟨fun c pins s dl σ H D yl I d ht => ?_⟩
  rw [exec_Return_some]
  exact wpG_bind (wpG_standAt (wpG_bind (wpG_noY (wpG_thn (he.run c pins s dl σ H _ I d ht) fun u s1 dl1 ⟨v, H1, I1, d1, r, q⟩ => wpG_pure ⟨v, σ, H1, I1, d1, r, q⟩))))
/-- quiet code behind a value -/
theorem quiet_ep {α : Type} {c : Code} {Y : GY} {pins : List (Addr × Obj)} {σ : L2.St} {H : Hp} {s : Shared} {dl : List Addr} {t : Sem α} {Q : GPost α} (I : Inv X pins σ H s) (d : Dd H s dl)
    (h : ∀ pins', Inv X pins' σ H s → wpAny (model X.prog X.w) X.A t (fun a s' => (∀ σ' H', Inv X pins' σ' H' s' → Inv X pins σ' H' s' ∧ Dd H' s' dl) → Q a s' dl) X.xe s) : wpG (model X.prog X.w) Z X.A Y c t Q (XEg X) dl s :=
  wpG_of (wpAny_mono (h _ (pinDd I d)) (fun a s' q => q fun σ' H' I' => unpinDd d I') fun _ _ x => x)
def tSetG (te : TE) (i : Nat) : TSg := fun D _ σ H => te σ H fun x H1 => D.nx (σ.set i (some x)) H1
theorem psg_set {i : Nat} {x : Str} {pos' : Pos} (hN : X.N.Nodup) (hi : X.N[i]? = some x) (hx : Loc X.env.scope x) (he : PEg Z X e te) (hs : swapsWith e (some (.Name x pos')) pos.line X.env = pure false := by rfl) (hf : X.fn x = true ∨ X.env.scope.names.lookup x = some .local := by first | exact .inl rfl | exact .inr rfl | assumption) :
    PSg Z X (.Assign [.Name x pos'] e pos) (tSetG te i) := by
  refine ⟨fun c pins s dl σ H D yl I d ht => ?_⟩
  rw [exec_Assign_Name X.env x pos' e pos hs]
  refine wpG_bind (wpG_standAt (wpG_bind (wpG_noY (wpG_thn (he.run c pins s dl σ H _ I d ht) fun u s1 dl1 ⟨v, H1, I1, d1, r, q⟩ => ?_))))
  refine quiet_ep I1 d1 fun pins' I1' => ?_
  refine wpAny_bind (wpAny_standAt (wpAny_bind (wpAny_bindName (store_ok I1' hN hi hx r (fun s2 I2 => wpAny_pure fun k => ?_) hf))))
  obtain ⟨k1, k2⟩ := k _ _ I2
  exact ⟨_, H1, k1, k2, q⟩
/-- target = e, e given out by a def -/
def tAsgG (te : TE) (g : TG) : TSg := fun D _ σ H => te σ H fun x H1 => g x σ H1 D.nx
theorem psg_asg {tg : Expr} {g : TG} (he : PEg Z X e te) (hg : PG X tg g) (hs : swapsWithSole [tg] e pos.line X.env = pure false := by rfl) (hw : swappedStores [tg] e X.env = pure none := by rfl)
    (h1 : (assignEach [tg] X.env).map (·.2) = [assign tg X.env] := by rfl) : PSg Z X (.Assign [tg] e pos) (tAsgG te g) := by
  refine ⟨fun c pins s dl σ H D yl I d ht => ?_⟩
  rw [exec_Assign_arm]
  refine wpG_bind (wpG_standAt ?_)
  rw [hs]
  refine wpG_bind (wpG_pure ?_)
  rw [if_neg (by decide)]
  refine wpG_bind (wpG_noY (wpG_thn (he.run c pins s dl σ H _ I d ht) fun u s1 dl1 ⟨v, H1, I1, d1, r, q⟩ => ?_))
  rw [hw]
  refine wpG_bind (wpG_pure ?_)
  show wpG _ Z X.A (YX X yl) c (assignAll u ((assignEach [tg] X.env).map (·.2)) >>= fun _ => pure Flow.next) _ _ dl1 s1
  rw [h1]
  refine quiet_ep I1 d1 fun pins' I1' => ?_
  refine wpAny_bind (thn (hg.run pins' s1 σ H1 v u _ I1' r q) fun _ s2 ⟨σ2, H2, I2, q2⟩ => wpAny_pure fun k => ?_)
  obtain ⟨k1, k2⟩ := k _ _ I2
  exact ⟨_, H2, k1, k2, q2⟩

/-! ### comparisons, and, or, not -/
theorem peg_cmpR {op : CmpOp} {r : L2.R2} (ho : OpR X (compareOp op) r) (ha : PEg Z X a ta) (hb : PEg Z X b tb) (hm : behindInMarks op b = false) : PEg Z X (.Compare a [op] [b] pos) (tOp r ta tb) := by
  refine ⟨fun c pins s dl σ H Q I d ht => ?_⟩
  rw [eval_Compare1, markedBehindIn_of_false hm]
  refine wpG_bind (wpG_thn (ha.run c pins s dl σ H _ I d ht) fun v s1 dl1 ⟨x, H1, I1, d1, r1, q1⟩ => ?_)
  refine wpG_bind (wpG_holding (wpG_thn (hb.run c pins s1 dl1 σ H1 _ I1 d1 q1) fun u s2 dl2 ⟨y, H2, I2, d2, r2, q2⟩ => ?_))
  refine quiet_ep I2 d2 fun pins' I2' => wpAny_bind (wpAny_standAt (wpAny_operateT ?_))
  refine thn (ho pins' s2 σ H2 x y v u Q I2' r1 r2 q2) fun z s3 ⟨w, H3, I3, r3, q3⟩ k => ?_
  obtain ⟨k1, k2⟩ := k _ _ I3
  exact ⟨w, H3, k1, k2, r3, q3⟩
theorem ptg_cmpR {op : CmpOp} {r : L2.R2} (ho : OpR X (compareOp op) r) (ha : PEg Z X a ta) (hb : PEg Z X b tb) (hm : behindInMarks op b = false) : PTg Z X (.Compare a [op] [b] pos) (tTest (tOp r ta tb)) := by
  refine ⟨fun c pins s dl σ H Q I d ht => ?_⟩
  rw [isTrue_Compare1, markedBehindIn_of_false hm]
  refine wpG_bind (wpG_thn (ha.run c pins s dl σ H _ I d ht) fun v s1 dl1 ⟨x, H1, I1, d1, r1, q1⟩ => ?_)
  refine wpG_bind (wpG_holding (wpG_thn (hb.run c pins s1 dl1 σ H1 _ I1 d1 q1) fun u s2 dl2 ⟨y, H2, I2, d2, r2, q2⟩ => ?_))
  refine quiet_ep I2 d2 fun pins' I2' => wpAny_bind (wpAny_standAt (wpAny_bind (wpAny_operateT ?_)))
  refine thn (ho pins' s2 σ H2 x y v u _ I2' r1 r2 q2) fun z s3 ⟨w, H3, I3, r3, q3⟩ => wpAny_holding ?_
  obtain ⟨k, rfl, q3⟩ := q3
  cases r3
  refine wpAny_truthy_bool fun kk => ?_
  obtain ⟨k1, k2⟩ := kk _ _ I3
  exact ⟨H3, k1, k2, q3⟩
theorem ptg_val (h : PEg Z X e te) (he : isTrue e X.env (eval e X.env) = (do let v ← eval e X.env; standAt e.pos; holding [v] (truthy v)) := by rfl) : PTg Z X e (tTest te) := by
  refine ⟨fun c pins s dl σ H Q I d ht => ?_⟩
  rw [he]
  refine wpG_bind (wpG_thn (h.run c pins s dl σ H _ I d ht) fun v s1 dl1 ⟨x, H1, I1, d1, r1, q1⟩ => ?_)
  obtain ⟨k, rfl, q1⟩ := q1
  cases r1
  refine quiet_ep I1 d1 fun pins' I1' => wpAny_bind (wpAny_standAt (wpAny_holding (wpAny_truthy_bool fun kk => ?_)))
  obtain ⟨k1, k2⟩ := kk _ _ I1'
  exact ⟨H1, k1, k2, q1⟩
theorem ptg_not (h : PTg Z X a tt) : PTg Z X (.UnaryOp .Not a pos) (tNot tt) := by
  refine ⟨fun c pins s dl σ H Q I d ht => ?_⟩
  show wpG _ Z X.A NoY c (isTrue a X.env (eval a X.env) >>= fun k => pure (!k)) _ _ dl s
  exact wpG_bind (wpG_thn (h.run c pins s dl σ H _ I d ht) fun k s1 dl1 ⟨H1, I1, d1, q1⟩ => wpG_pure ⟨H1, I1, d1, q1⟩)
variable {rest : List Expr}
theorem pwg_and1 (ha : PTg Z X a tt) : PWg Z X (.BoolOp .And [a] pos) tt := by
  refine ⟨fun wh c pins s dl σ H Q I d ht => ?_⟩
  show wpG _ Z X.A NoY c (isTrue a X.env (eval a X.env) >>= fun k => (match BoolOp.And, k with | .And, false => pure false | .Or, true => pure true | _, _ => allTrue .And [] X.env : Sem Bool)) _ _ dl s
  refine wpG_bind (wpG_thn (ha.run c pins s dl σ H _ I d ht) fun k s1 dl1 q => ?_)
  cases k with
  | true => exact wpG_pure q
  | false => exact wpG_pure q
theorem pwg_or1 (ha : PTg Z X a tt) : PWg Z X (.BoolOp .Or [a] pos) tt := by
  refine ⟨fun wh c pins s dl σ H Q I d ht => ?_⟩
  show wpG _ Z X.A NoY c (isTrue a X.env (eval a X.env) >>= fun k => (match BoolOp.Or, k with | .And, false => pure false | .Or, true => pure true | _, _ => allTrue .Or [] X.env : Sem Bool)) _ _ dl s
  refine wpG_bind (wpG_thn (ha.run c pins s dl σ H _ I d ht) fun k s1 dl1 q => ?_)
  cases k with
  | true => exact wpG_pure q
  | false => exact wpG_pure q
theorem pwg_and (ha : PTg Z X a tt) (hb : PWg Z X (.BoolOp .And (b :: rest) pos) tu) : PWg Z X (.BoolOp .And (a :: b :: rest) pos) (tAnd tt tu) := by
  refine ⟨fun wh c pins s dl σ H Q I d ht => ?_⟩
  show wpG _ Z X.A NoY c (isTrue a X.env (eval a X.env) >>= fun k => (match BoolOp.And, k with | .And, false => pure false | .Or, true => pure true | _, _ => allTrue .And (b :: rest) X.env : Sem Bool)) _ _ dl s
  refine wpG_bind (wpG_thn (ha.run c pins s dl σ H _ I d ht) fun k s1 dl1 ⟨H1, I1, d1, q⟩ => ?_)
  cases k with
  | true => exact hb.run wh c pins s1 dl1 σ H1 Q I1 d1 q
  | false => exact wpG_pure ⟨H1, I1, d1, q⟩
theorem pwg_or (ha : PTg Z X a tt) (hb : PWg Z X (.BoolOp .Or (b :: rest) pos) tu) : PWg Z X (.BoolOp .Or (a :: b :: rest) pos) (tOr tt tu) := by
  refine ⟨fun wh c pins s dl σ H Q I d ht => ?_⟩
  show wpG _ Z X.A NoY c (isTrue a X.env (eval a X.env) >>= fun k => (match BoolOp.Or, k with | .And, false => pure false | .Or, true => pure true | _, _ => allTrue .Or (b :: rest) X.env : Sem Bool)) _ _ dl s
  refine wpG_bind (wpG_thn (ha.run c pins s dl σ H _ I d ht) fun k s1 dl1 ⟨H1, I1, d1, q⟩ => ?_)
  cases k with
  | true => exact wpG_pure ⟨H1, I1, d1, q⟩
  | false => exact hb.run wh c pins s1 dl1 σ H1 Q I1 d1 q
theorem peg_one {op : BoolOp} (h : PEg Z X a ta) : PEg Z X (.BoolOp op [a] pos) ta := ⟨fun c pins s dl σ H Q I d ht => h.run c pins s dl σ H Q I d ht⟩
theorem peg_and (ha : PEg Z X a ta) (hb : PEg Z X (.BoolOp .And (b :: rest) pos) tb) : PEg Z X (.BoolOp .And (a :: b :: rest) pos) (tAndV ta tb) := by
  refine ⟨fun c pins s dl σ H Q I d ht => ?_⟩
  show wpG _ Z X.A NoY c (do
    let v ← eval a X.env
    standAt pos
    let k ← holding [v] (truthy v)
    match BoolOp.And, k with
    | .And, false | .Or, true => pure v
    | _, _ => boolOp pos .And (eval b X.env :: evalEach rest X.env)) _ _ dl s
  refine wpG_bind (wpG_thn (ha.run c pins s dl σ H _ I d ht) fun v s1 dl1 ⟨x, H1, I1, d1, r1, q1⟩ => ?_)
  obtain ⟨k, rfl, q1⟩ := q1
  cases r1
  refine wpG_bind (wpG_standAt (wpG_bind (wpG_of (wpAny_holding (wpAny_truthy_bool ?_)))))
  cases k with
  | true => exact hb.run c pins s1 dl1 σ H1 Q I1 d1 q1
  | false => exact wpG_pure ⟨.bl false, H1, I1, d1, rfl, q1⟩

/-! ### argument lists -/
def APg (X : Cx) (pins : List (Addr × Obj)) (σ : L2.St) (Q : List V → Hp → Prop) : GPost (List Value) := fun us s dl => ∃ vs H', Inv X pins σ H' s ∧ Dd H' s dl ∧ Vals vs us ∧ Q vs H'
structure PAg (Z : Result → Shared → Prop) (X : Cx) (es : List Expr) (t : TA) : Prop where
  run : ∀ (pos : Pos) (c : Code) (pins : List (Addr × Obj)) (s : Shared) (dl : List Addr) (σ : L2.St) (H : Hp) (Q : List V → Hp → Prop), Inv X pins σ H s → Dd H s dl → t σ H Q →
    wpG (model X.prog X.w) Z X.A NoY c (spliced (backTo pos (starEach es X.env))) (APg X pins σ Q) (XEg X) dl s
variable {es : List Expr} {t : TA}
theorem pag_of (h : PA X es t) : PAg Z X es t := ⟨fun pos c pins s dl σ H Q I d ht => wpG_of (wpAny_mono (h.run pos _ s σ H Q (pinDd I d) ht) (fun u s' ⟨v, H', I', r, q⟩ => ⟨v, H', (unpinDd d I').1, (unpinDd d I').2, r, q⟩) fun _ _ x => x)⟩
theorem pag_cons (ha : PEg Z X e te) (hr : PAg Z X es t) (hs : starEach (e :: es) X.env = (false, eval e X.env) :: starEach es X.env := by rfl) : PAg Z X (e :: es) (tCons te t) := by
  refine ⟨fun pos c pins s dl σ H Q I d ht => ?_⟩
  rw [hs]
  show wpG _ Z X.A NoY c (spliced ((false, eval e X.env) :: backTo pos (starEach es X.env))) _ _ dl s
  rw [spliced]
  refine wpG_bind (wpG_thn (ha.run c pins s dl σ H _ I d ht) fun v s1 dl1 ⟨x, H1, I1, d1, r1, q1⟩ => ?_)
  simp only [Bool.false_eq_true, if_false]
  refine wpG_bind (wpG_pure (wpG_bind (wpG_holding (wpG_thn (hr.run pos c pins s1 dl1 σ H1 _ I1 d1 q1) fun us s2 dl2 ⟨vs, H2, I2, d2, r2, q2⟩ => ?_))))
  exact wpG_pure ⟨x :: vs, H2, I2, d2, .cons r1 r2, q2⟩
theorem peg_tup {k : Nat} (h : PAg Z X es t) : PEg Z X (.Tuple es k pos) (tTup t) := by
  refine ⟨fun c pins s dl σ H Q I d ht => ?_⟩
  show wpG _ Z X.A NoY c (standAt pos >>= fun _ => spliced (backTo pos (starEach es X.env)) >>= fun us => newTuple us) _ _ dl s
  refine wpG_bind (wpG_standAt (wpG_bind (wpG_thn (h.run pos c pins s dl σ H _ I d ht) fun us s1 dl1 ⟨xs, H1, I1, d1, r1, hz, q1⟩ => ?_)))
  refine quiet_ep I1 d1 fun pins' I1' => wpAny_newTuple (fun kk => ?_) (by rw [← r1.length]; exact hz)
  have I2 : Inv X pins' σ (upd H1 s1.heap.objs.size (.tup xs)) { s1 with heap := s1.heap.push { cls := .type "tuple", data := .seq us.toArray } } :=
    I1'.laid (t' := s1.toks) (fun b u e => Heap.get?_push_of_some _ e) (Nat.le_refl _) ⟨hz, us, r1, ⟨_, Heap.get?_push_size _ rfl, rfl, _, rfl⟩⟩
  obtain ⟨k1, k2⟩ := kk _ _ I2
  exact ⟨.ref s1.heap.objs.size, _, k1, k2, rfl, q1 _ (I1.hok.fresh (Nat.le_refl _))⟩
end
end GG
/-! G5: defs over the ghost: their promises, their calls; for loops. -/
namespace GG
open PySem
open PySem.Spec
open PyProof.Rows
open L2

/-! ### a def's code -/
section
variable {prog : Program} {w : World} {A : Around} {E : Value → Shared → Prop} {s : Shared}
/-- up to the body's code -/
theorem enters_body {a : Addr} {args : Args} {o : Obj} {fd : FuncData} {body : List Stmt} {Q : PySem.Fin → Shared → Prop} (room : A.depth < recursionLimit) (at_ : s.heap.get? a = some o) (isF : o.data = .func fd)
    (nc : fd.scope.isCoroutine = false) (ng : fd.scope.isGenerator = false) (isB : fd.body = .stmts body) (cr : s.heap.CodeRec fd.code fd.qualname)
    (k : wpAny (model prog w) A.in1 (bindArgs fd args) (fun bs s1 => wpAny (model prog w) A.in1 (newFunctionEnv fd.scope fd.globals fd.closure bs (fd.qualname ++ ".<locals>.") (some a) fd.code none fd.builtins)
      (fun env s2 => s2.heap.NoLimit ∧ Q (.again (.func body env)) s2) E s1) E s) :
    wpAny (model prog w) A.in1 (callAny (.ref a) args) Q E s := by
  unfold callAny
  refine wpAny_bind (wpAny_load at_ ?_)
  obtain ⟨cc, oc, vs, tq, e1, e2, e3, e4⟩ := cr
  rw [e1] at k
  simp only [isF, callFunction, nc, ng, isB, e1]
  refine wpAny_bind (m := field (.ref cc) 1) (wpAny_field e2 e3 e4 (wpAny_bind (wpAny_pure (wpAny_bind (thn k fun bs s1 k1 => ?_)))))
  exact wpAny_bind (thn k1 fun env s2 k2 => wpAny_bind (wpAny_enterFrame k2.1 room (wpAny_pure k2.2)))
end
section
variable {prog : Program} {w : World} {A : Around} {Z : Result → Shared → Prop} {Y : GY} {dl : List Addr} {s : Shared}
theorem codeG_func {body : List Stmt} {env : Env} {R : GPost Result} {E : GPost Value}
    (h : wpG (model prog w) Z (A.deeper env) Y (.func body env) (execs body env) (fun f s' dl' => R (.ok (.ret (match f with | .ret v => v | _ => .none))) s' dl') E dl s) (hE : ∀ x s dl, E x s dl → False) :
    codeG (model prog w) Z A Y (.func body env) R dl s := by
  refine codeG_of_tree ?_
  show wpG _ Z (A.deeper env) Y _ (point >>= fun _ => (execs body env).onRaise (leaving env) >>= fun f => (match f with | .ret v => ret v | _ => ret .none : Sem PySem.Fin)) _ _ dl s
  refine wpG_bind (wpG_of (wpAny_point (wpG_bind (wpG_onRaise (wpG_mono h (fun f s' dl' q => ?_) fun x s' dl' q => (hE x s' dl' q).elim)))))
  cases f <;> exact wpG_pure q
theorem codeG_call_function {a : Addr} {args : Args} {o : Obj} {fd : FuncData} {body : List Stmt} {R : GPost Result} (room : A.depth < recursionLimit) (at_ : s.heap.get? a = some o) (isF : o.data = .func fd)
    (nc : fd.scope.isCoroutine = false) (ng : fd.scope.isGenerator = false) (isB : fd.body = .stmts body) (cr : s.heap.CodeRec fd.code fd.qualname)
    (k : wpAny (model prog w) A.in1 (bindArgs fd args) (fun bs s1 => wpAny (model prog w) A.in1 (newFunctionEnv fd.scope fd.globals fd.closure bs (fd.qualname ++ ".<locals>.") (some a) fd.code none fd.builtins)
      (fun env s2 => s2.heap.NoLimit ∧ codeG (model prog w) Z A NoY (.func body env) R dl s2) (fun _ _ => False) s1) (fun _ _ => False) s) :
    codeG (model prog w) Z A NoY (.call (.ref a) args) R dl s := by
  refine codeG_of_tree ?_
  show wpG _ Z A.in1 NoY _ (callAny (.ref a) args) _ _ dl s
  refine wpG_of (wpAny_mono (enters_body (E := fun _ _ => False) (Q := fun fin s2 => ∃ env, fin = .again (.func body env) ∧ codeG (model prog w) Z A NoY (.func body env) R dl s2) room at_ isF nc ng isB cr (thn k fun bs s1 k1 => thn k1 fun env s2 k2 => ⟨k2.1, env, rfl, k2.2⟩)) (fun fin s2 q => ?_) fun _ _ x => x.elim)
  obtain ⟨env, rfl, q⟩ := q
  exact ⟨rfl, q⟩
end

/-! ### promises -/
def CEg (outer : List Env) (P : Program) (w : World) (H : Hp) (s : Shared) (Q : VK) (u : Value) (s' : Shared) (dl' : List Addr) : Prop :=
  ∃ v H', s'.os = s.os ∧ AllBare s'.gens ∧ Un (frs outer) [] H H' s.heap s'.heap ∧ HOk P w H' s'.heap ∧ RelV v u ∧ Q v H' ∧ Dd H' s' dl'
def CRg (outer : List Env) (P : Program) (w : World) (H : Hp) (s : Shared) (Q : VK) : GPost Result := fun r s' dl' => match r with
  | .ok (.ret u) => CEg outer P w H s Q u s' dl'
  | _ => False
structure FnG (Z : Result → Shared → Prop) (P : Program) (w : World) (K : PySem.W.Frag) (mg : Str → Option Value) (base : Heap) (k : Nat) (f : Addr) (fd : FuncData) (ps : List Str) (sp : Sp) : Prop where
  len : ∀ vs H Q E, sp vs H Q E → vs.length = ps.length
  run : ∀ (A : Around) (outer : List Env) (s : Shared) (dl : List Addr) (H : Hp) (args : Args) (us : List Value) (vs : List V) (Q : VK), Room k A → Env0 P w K mg base A outer s H → Dd H s dl → BindsTo s fd args (ps.zip us) → Vals vs us → sp vs H Q E0 →
    codeG (model P w) Z A NoY (.call (.ref f) args) (CRg outer P w H s Q) dl s
theorem FnG.mono {Z : Result → Shared → Prop} {P : Program} {w : World} {K : PySem.W.Frag} {mg : Str → Option Value} {base : Heap} {j k : Nat} {f : Addr} {fd : FuncData} {ps : List Str} {sp : Sp} (F : FnG Z P w K mg base j f fd ps sp) (h : j ≤ k) : FnG Z P w K mg base k f fd ps sp :=
  ⟨F.len, fun A outer s dl H args us vs Q hr => F.run A outer s dl H args us vs Q (hr.mono h)⟩
theorem Dd.kept {H : Hp} {s s' : Shared} {dl : List Addr} (d : Dd H s dl) (k : ∀ b o, s.heap.get? b = some o → s'.heap.get? b = some o) : Dd H s' dl := fun it hi => let ⟨o, h1, h2, h3⟩ := d it hi; ⟨o, k it o h1, h2, h3⟩

section
variable {Z : Result → Shared → Prop} {P : Program} {w : World} {K : PySem.W.Frag} {mg : Str → Option Value} {base : Heap}
/-- THE RULE for a def over the ghost: its body -/
theorem Fun.okG {x qual : Str} {st : Stmt} {f : Addr} {fd : FuncData} {N ps : List Str} {k : Nat} {sp : Sp} (F : Fun K x qual st f fd) (S : FnScope N ps (defScope st)) (len : ∀ vs H Q E, sp vs H Q E → vs.length = ps.length)
    (hbody : ∀ (cdv : Value) (A : Around) (outer : List Env) (s : Shared) (H : Hp) (vs : List V) (Q : VK), Room k (A.deeper (envOfC qual (defScope st) s.heap.objs.size f cdv)) → sp vs H Q E0 →
      ∃ t, PSsg Z (cxOf CX0 P w K mg base N qual (defScope st) f cdv A outer s H E0).nox (defBody st) t ∧ t { nx := fun _ H' => Q .non H', rt := Q } (fun _ _ => False) (start N vs) H) : FnG Z P w K mg base (k + 1) f fd ps sp := by
  obtain ⟨oc, od, kV, doc, pm, an, cdv, ct, osl, rfl, lk, hcd⟩ := F.ex
  refine ⟨len, fun A outer s dl H args us vs Q hr e0 d hb r hsp => ?_⟩
  have hl := len _ _ _ _ hsp
  have KX : K.In s.heap := e0.mod.kin.keeps fun b o e => (e0.bs b o e).1
  have lim : s.heap.NoLimit := e0.mod.nolimit.keeps fun b o e => (e0.bs b o e).1
  have hkind : ∀ y ∈ ps.zip us, (defScope st).names.lookup y.1 = some .local ∨ ((defScope st).names.lookup y.1 = some .cell ∧ ((cellsFrom (s.heap.objs.size + 1) (defScope st).names []).lookup y.1).isSome = true) := fun y hy =>
    (S.par y.1 (List.of_mem_zip hy).1).imp id fun q => ⟨q, PySem.W.cellsFrom_some _ _ _ (.inl q)⟩
  refine codeG_call_function hr.depth (KX _ _ lk) rfl S.co S.gen rfl (PySem.W.codeRec_of KX hcd) (hb _ _ _ _ (wpAny_newFunctionEnv_cells S.kind hkind fun env he s1 x => ?_))
  subst he
  obtain ⟨t, ht, hq⟩ := hbody cdv A outer s H vs Q (hr.deeper _) hsp
  have I : Inv (cxOf CX0 P w K mg base N qual (defScope st) f cdv A outer s H E0) [] (start N vs) H s1 := inv_start S hr.hd e0 hl r x
  refine ⟨lim.keeps x.toInCall.keep, codeG_func (E := fun _ _ _ => False) ?_ fun _ _ _ z => z⟩
  have run := ht.run (.func (defBody st) (envOfC qual (defScope st) s.heap.objs.size f cdv)) [] s1 dl (start N vs) H _ _ (I.wish fun _ _ => False) (d.kept x.toInCall.keep) hq
  have hnoY : wpG (model P w) Z (A.deeper (envOfC qual (defScope st) s.heap.objs.size f cdv)) NoY (.func (defBody st) (envOfC qual (defScope st) s.heap.objs.size f cdv)) (execs (defBody st) (envOfC qual (defScope st) s.heap.objs.size f cdv)) _ (fun _ _ _ => False) dl s1 :=
    fun K' J gd lv stk hin hg hy hQ hE p => run K' J gd lv stk hin (.inr fun v s dl ⟨_, _, _, _, _, _, _, z⟩ => z) (fun v s dl ⟨_, _, _, _, _, _, _, z⟩ => z.elim) hQ (fun x p s' dl' z => (z : False).elim) p
  refine wpG_thn hnoY fun fl s' dl' hs => ?_
  have fin : ∀ {σ' : L2.St} {H' : Hp} {v : V} {u : Value}, Inv (cxOf CX0 P w K mg base N qual (defScope st) f cdv A outer s H E0).nox [] σ' H' s' → Dd H' s' dl' → RelV v u → Q v H' → CEg outer P w H s Q u s' dl' :=
    fun {σ' H' v u} J dd rv q => ⟨v, H', J.os, J.bare, J.base, J.hok, rv, q, dd⟩
  cases fl with
  | ret u =>
    obtain ⟨v, σ', H', J, dd, rv, q⟩ := hs
    exact fin J dd rv q
  | next =>
    obtain ⟨σ', H', J, dd, q⟩ := hs
    exact fin (v := V.non) (u := Value.none) J dd rfl q
  | brk => obtain ⟨_, _, _, _, q⟩ := hs; exact q.elim
  | cont => obtain ⟨_, _, _, _, q⟩ := hs; exact q.elim
end

/-! ### calls -/
section
variable {Z : Result → Shared → Prop} {X : Cx} {k : Nat} {f C : Addr} {fd : FuncData} {ps : List Str} {sp : Sp} {dvs : List V} {ds : List Value} {x m : Str} {p pos apos : Pos} {e o : Expr} {es : List Expr} {ta te : TE} {t : TA}
theorem run_fng {c : Code} {pins : List (Addr × Obj)} {σ : L2.St} {H : Hp} {s : Shared} {dl : List Addr} {Q : VK} {us : List Value} {vs : List V} (F : FnG Z X.prog X.w X.K X.mg X.base k f fd ps sp) (hr : Room k X.A) (hb : Binds X.K fd ps ds) (hd : Vals dvs ds)
    (I : Inv X pins σ H s) (d : Dd H s dl) (r : Vals vs us) (h : sp (vs ++ dvs) H Q E0) : wpG (model X.prog X.w) Z X.A NoY c (call (.ref f) us) (EPg X pins σ Q) (XEg X) dl s := by
  have r2 : Vals (vs ++ dvs) (us ++ ds) := r.append hd
  have hl : (us ++ ds).length = ps.length := by rw [← r2.length]; exact F.len _ _ _ _ h
  refine wpG_call (codeG_mono (F.run X.A X.stack s dl H ⟨us, []⟩ (us ++ ds) (vs ++ dvs) Q hr I.env0 d (hb s us I.kIn hl) r2 h) fun r s' dl' q => ?_)
  cases r with
  | error _ => exact q.elim
  | ok fl =>
    cases fl with
    | ret u =>
      obtain ⟨v, H', h1, h2, h3, h4, h5, h6, h7⟩ := q
      exact ⟨v, H', I.call' h1 h3 h4 h2 (fun b z => by simp at z), h7, h5, h6⟩
    | next => exact q.elim
    | brk => exact q.elim
    | cont => exact q.elim
/-- the call's node, the arguments quiet -/
theorem wpG_callWith {A : Around} {E : GPost Value} {Y : GY} {c : Code} {M : Model} {dl : List Addr} {s : Shared} {K : PySem.W.Frag} {fv : Value} {first : List Value} {args : List (Bool × Sem Value)} {Q : GPost Value} {Pr : Args → Shared → Prop}
    (hpl : args.any (·.1) = false) (hk : PySem.W.keepIn K fv = true) (ha : wpAny M A (evalArgs fv true args []) (fun a s1 => K.In s1.heap ∧ Pr a s1) (fun x s1 => E x s1 dl) s)
    (hc : ∀ a s1, Pr a s1 → wpG M Z A Y c (call fv (first ++ a.pos) a.kw) Q E dl s1) : wpG M Z A Y c (callWith pos fv first args []) Q E dl s := by
  unfold callWith
  refine wpG_bind (wpG_holding (wpG_of (wpAny_mono ha (fun a s1 ⟨kin, q⟩ => ?_) fun _ _ z => z)))
  refine wpG_bind (wpG_standAt ?_)
  obtain ⟨kp, hkp, L⟩ := PySem.W.keeps_K (M := M) hk s1.heap kin
  have hpl2 : (args.any (·.1) || ([] : List (Option Str × Sem Value)).any (·.1.isNone)) = false := by rw [hpl]; rfl
  simp only [hpl2]
  have tail : ∀ {tt : Sem Value}, wpG M Z A Y c tt Q E dl s1 → wpG M Z A Y c (tt >>= fun r => holding [r] point >>= fun _ => pure r) Q E dl s1 :=
    fun ht => wpG_bind (wpG_thn ht fun r s2 dl2 q2 => wpG_bind (wpG_holding (wpG_of (wpAny_point (wpG_pure q2)))))
  have marked : ∀ mk : Value, wpG M Z A Y c (callMarked mk fv (first ++ a.pos) a.kw) Q E dl s1 := fun mk => wpG_keep (hc a s1 q)
  refine wpG_bind (wpG_of (L.here ?_))
  rcases hkp with rfl | rfl | rfl <;> dsimp only <;> first | exact tail (hc a s1 q) | (split <;> first | exact tail (hc a s1 q) | exact tail (marked _))
theorem peg_call (F : FnG Z X.prog X.w X.K X.mg X.base k f fd ps sp) (hr : Room k X.A) (hg : Gl X x) (hm : X.mg x = some (.ref f)) (hk : PySem.W.keepIn X.K (.ref f) = true) (hb : Binds X.K fd ps ds) (hd : Vals dvs ds)
    (ha : PA X (e :: es) t) (hdb : (x == ("__debug__" : Str)) = false := by decide) (he : starEach (e :: es) X.env = (false, eval e X.env) :: starEach es X.env := by rfl) (hpl : (backTo pos (starEach es X.env)).any (·.1) = false := by rfl) :
    PEg Z X (.Call (.Name x p) (e :: es) [] pos) (tCall sp dvs E0 t) := by
  refine ⟨fun c pins s dl σ H Q I d ht => ?_⟩
  show wpG _ Z X.A NoY c (eval (.Name x p) X.env >>= fun fv => callWith pos fv [] (backTo pos (starEach (e :: es) X.env)) []) _ _ dl s
  refine wpG_bind (wpG_of (ld_glob I hg hm ?_ hdb))
  refine wpG_callWith (K := X.K) (Pr := fun a s1 => ∃ us vs H1, a = ⟨us, []⟩ ∧ Inv X pins σ H1 s1 ∧ Dd H1 s1 dl ∧ Vals vs us ∧ tCall sp dvs E0 (fun _ H2 k2 => k2 vs H2) σ H1 Q) (by rw [he]; exact hpl) hk ?_ fun a s1 ⟨us, vs, H1, ea, I1, d1, r, q⟩ => ?_
  · rw [he]
    refine PySem.Calls.evalArgs_plain ?_
    have := ha.run pos _ s σ H (fun vs H1 => sp (vs ++ dvs) H1 Q E0) (pinDd I d) ht
    rw [he] at this
    refine thn this fun us s1 ⟨vs, H1, I1, r, q⟩ => ⟨I1.kIn, us, vs, H1, rfl, (unpinDd d I1).1, (unpinDd d I1).2, r, q⟩
  · subst ea
    exact run_fng F hr hb hd I1 d1 r q
/-- o.m() -/
theorem peg_meth0 {pl : Sem Bool} (he : PE X o ta) (cl : Cls X.K C) (hm : Meth X.K C m f) (F : FnG Z X.prog X.w X.K X.mg X.base k f fd ps sp) (hr : Room k X.A) (hb : Binds X.K fd ps ds) (hd : Vals dvs ds)
    (ht : eval (.Call (.Attribute o m apos) [] [] pos) X.env = (do
      let ov ← eval o X.env
      standAt apos.atName
      let (f, first) ← holding [ov] (getMethod ov m pl)
      callWith pos f first (backTo pos (starEach [] X.env)) (backToKw pos (keywordEach [] X.env))) := by rfl) :
    PEg Z X (.Call (.Attribute o m apos) [] [] pos) (tMeth C m sp dvs E0 ta tNil) := by
  refine ⟨fun c pins s dl σ H Q I d htt => ?_⟩
  rw [ht]
  refine wpG_bind (wpG_thn ((peg_of he).run c pins s dl σ H _ I d htt) fun u s1 dl1 ⟨y, H1, I1, d1, ry, a, dx, fs, ey, ea, l, q⟩ => ?_)
  subst ey
  obtain rfl : u = Value.ref a := ry
  refine wpG_bind (wpG_standAt (wpG_bind (wpG_holding (wpG_of (getmeth_ok I1 ea cl hm l ?_)))))
  refine wpG_callWith (K := X.K) (Pr := fun a' s2 => a' = ⟨[], []⟩ ∧ s2 = s1) rfl hm.kp (evalArgs_nil3 ⟨I1.kIn, rfl, rfl⟩) fun a' s2 ⟨e1, e2⟩ => ?_
  subst e1 e2
  exact run_fng (us := [.ref a]) (vs := [.ref a]) F hr hb hd I1 d1 (.cons rfl .nil) q
end
end GG
/-! G6: for loops and list comprehensions over the ghost. -/
namespace GG
open PySem
open PySem.Spec
open PyProof.Rows
open L2

/-- an iterator has come; none of its objects is a generator -/
def PIEg (X : Cx) (pins : List (Addr × Obj)) (tg : Expr) (R : It → Hp → Prop) (σ : L2.St) : GPost Value := fun itv s2 dl => ∃ (it : Addr) (fp : List Addr) (tn : Nat → Heap → Prop) (J : It) (H' : Hp), itv = .ref it ∧ Inv X pins σ H' s2 ∧ Dd H' s2 dl ∧
  Turn X.prog X.w X.K tg J fp it tn ∧ tn 0 s2.heap ∧ (∀ b ∈ fp, FpOk X pins H' b) ∧ (∀ i h, tn i h → ∀ b ∈ fp, ∀ o, h.get? b = some o → o.genNumber? = none) ∧ R J H'
structure PIg (Z : Result → Shared → Prop) (X : Cx) (tg iter : Expr) (wi : TI) : Prop where
  run : ∀ (c : Code) (pins : List (Addr × Obj)) (s : Shared) (dl : List Addr) (σ : L2.St) (H : Hp) (R : It → Hp → Prop), Inv X pins σ H s → Dd H s dl → wi σ H R →
    wpG (model X.prog X.w) Z X.A NoY c (eval iter X.env) (fun v s1 dl1 => wpG (model X.prog X.w) Z X.A NoY c (pyIter v) (PIEg X pins tg R σ) (XEg X) dl1 s1) (XEg X) dl s
/-- an iterator just made -/
theorem fresh_fp {X : Cx} {pins : List (Addr × Obj)} {σ : L2.St} {H : Hp} {s : Shared} (I : Inv X pins σ H s) {b : Addr} (hb : s.heap.objs.size ≤ b) : FpOk X pins H b := I.fpOk hb (I.hok.fresh hb)
section
variable {Z : Result → Shared → Prop} {X : Cx} {tg : Expr}
theorem pig_list {l : Expr} {tl : TE} (hl : PEg Z X l tl) : PIg Z X tg l (iList X.K tl) := by
  refine ⟨fun c pins s dl σ H R I d h => ?_⟩
  refine wpG_thn (hl.run c pins s dl σ H _ I d h) fun v s1 dl1 ⟨x, H1, I1, d1, r1, a, ex, ⟨xs, hq⟩, q⟩ => ?_
  subst ex
  cases r1
  obtain ⟨its, rv, p, hz⟩ := I1.list hq
  have kp : ∀ b o, s1.heap.get? b = some o → (s1.heap.push { cls := .type "list_iterator", data := .fields #[.ref a, .int 0 0] }).get? b = some o := fun b o e => Heap.get?_push_of_some _ e
  refine wpG_of (wpAny_pyIter_list p.isList ?_)
  refine ⟨s1.heap.objs.size, [s1.heap.objs.size], _, _, H1, rfl, I1.kept (t' := s1.toks) kp, d1.kept kp, turn_list a _, ⟨_, Heap.get?_push_size _ rfl, rfl, rfl⟩, fun b hb => ?_, fun i h st b hb o e => ?_, q⟩
  · rw [List.mem_singleton.mp hb]; exact fresh_fp I1 (Nat.le_refl _)
  · obtain ⟨o2, e2, c2, _⟩ := st
    rw [List.mem_singleton.mp hb, e2] at e
    cases e
    simp [Obj.genNumber?, c2]
theorem pig_range1 {a : Expr} {ta : TA} {p pos : Pos} (hg : Gl X "range") (hm : X.mg "range" = none) (ha : PA X [a] ta) (hs : starEach [a] X.env = [(false, eval a X.env)] := by rfl) : PIg Z X tg (.Call (.Name "range" p) [a] [] pos) (iRng1 ta) := by
  refine ⟨fun c pins s dl σ H R I d h => wpG_of ?_⟩
  refine Call_ (ld_blt (pinDd I d) hg hm boot_range (PyProof.Rows.callWith_type1 (thn (ha.run pos _ s σ H _ (pinDd I d) h) fun us s1 ⟨vs, H1, I1', r1, q1⟩ => ?_) hs rfl))
  obtain ⟨I1, d1⟩ := unpinDd d I1'
  obtain ⟨j, e, q1, q2, q⟩ := q1
  subst e
  cases r1 with
  | cons r rr =>
    cases rr
    obtain ⟨t, rfl⟩ := r
    refine call_range_1 (wpG_of (wpAny_pyIter_range (IsRange.new ..) (small_one (by omega) (by omega) q1 q2) ?_))
    have kp1 : ∀ (o : Obj) b ob, s1.heap.get? b = some ob → (s1.heap.push o).get? b = some ob := fun o b ob e => Heap.get?_push_of_some _ e
    have kp2 : ∀ (o o' : Obj) b ob, s1.heap.get? b = some ob → ((s1.heap.push o).push o').get? b = some ob := fun o o' b ob e => Heap.get?_push_of_some _ (Heap.get?_push_of_some _ e)
    refine ⟨_, [_], _, _, H1, rfl, I1.kept (kp2 _ _), d1.kept (kp2 _ _), turn_range _ 0 j.toNat, ?_, fun b hb => ?_, fun i h st b hb o e => ?_, q⟩
    · have e1 : (0 : Int) + ((0 : Nat) : Int) * 1 = 0 := by simp
      have e2 : ((j.toNat : Nat) : Int) - ((0 : Nat) : Int) = Builtin.Range.rangeSize 0 j 1 := by rw [rangeSize_one]; split <;> omega
      show IsRangeIter _ _ ((0 : Int) + ((0 : Nat) : Int) * 1) (((j.toNat : Nat) : Int) - ((0 : Nat) : Int)) 1
      rw [e1, e2]
      exact Heap.get?_push_size _ rfl
    · rw [List.mem_singleton.mp hb]
      refine fresh_fp I1 ?_
      rw [Heap.size_push]
      exact Nat.le_succ _
    · have e2 : h.get? _ = some _ := st
      rw [List.mem_singleton.mp hb, e2] at e
      cases e
      rfl

/-! ### for -/
def tForG (wi : TI) (g : TG) (tb : TSg) : TSg := fun D yl σ H => wi σ H fun J H1 => ∃ W : Nat → Nat → L2.St → Hp → Prop, (∃ m, W 0 m σ H1) ∧ ∀ i m σ H, W i m σ H →
  (J.stop i H ∧ D.nx σ H) ∨ (J.go i H ∧ ∃ N : L2.St → Hp → Prop, (∀ σ' H', N σ' H' → ∃ m', m' < m ∧ W (i + 1) m' σ' H') ∧ ∀ x H', J.yld i H x H' → g x σ H' fun σ2 H2 => tb { D with nx := N, ct := N, bk := D.nx } yl σ2 H2)
/-- what may be handed out stays the same with more pins -/
theorem notDead {X : Cx} {pins : List (Addr × Obj)} {H : Hp} {s : Shared} {dl : List Addr} {fp : List Addr} (d : Dd H s dl) (hfp : ∀ b ∈ fp, FpOk X pins H b) (hng : ∀ b ∈ fp, ∀ o, s.heap.get? b = some o → o.genNumber? = none) : ∀ b ∈ fp, FpOk X (pins ++ pinsAt dl s.heap) H b := fun b hb => by
  obtain ⟨f0, f1, f2, f3, f4, f5⟩ := hfp b hb
  refine ⟨f0, f1, f2, f3, f4, fun p hp q => ?_⟩
  rcases List.mem_append.mp hp with z | z
  · exact f5 p (List.mem_append_left _ z) q
  · rcases List.mem_append.mp z with z | z
    · exact f5 p (List.mem_append_right _ z) q
    · obtain ⟨hd, e⟩ := of_pinsAt z
      obtain ⟨o, ho, hg, _⟩ := d p.1 hd
      rw [q] at ho
      rw [hng b hb o ho] at hg
      cases hg
theorem psg_for {iter : Expr} {body : List Stmt} {wi : TI} {g : TG} {tb : TSg} {pos : Pos} (hnx : ∀ x s, X.xe x s → False) (hc : X.calm = true) (hi : PIg Z X tg iter wi) (hg : PG X tg g) (hb : PSsg Z X body tb)
    (hs : ∀ x, foldedSetIterable iter X.env x = pure x := by intro _; rfl) : PSg Z X (.For tg iter body [] pos) (tForG wi g tb) := by
  refine ⟨fun c pins s dl σ H D yl I d ht => ?_⟩
  rw [exec_For]
  refine wpG_bind (wpG_standAt (wpG_bind (wpG_noY (wpG_thn (hi.run c pins s dl σ H _ I d ht) fun v s1 dl1 h1 => ?_))))
  refine wpG_bind (wpG_of_eq (hs v) (wpG_bind (wpG_standAt (wpG_bind (wpG_holding (wpG_noY (wpG_thn h1 fun itv s2 dl2 h2 => ?_)))))))
  obtain ⟨it, fp, tn, J, H2, e, I2, d2, T, st2, f2, ng, W, ⟨m0, w0⟩, turn⟩ := h2
  subst e
  have stat : ∀ {H' : Hp}, (∀ b ∈ fp, H' b = none) → ∀ b ∈ fp, FpOk X pins H' b := fun hn b hb => ⟨hn b hb, (f2 b hb).2⟩
  have loop : ∀ n i σ H s dl, Inv X pins σ H s → Dd H s dl → tn i s.heap → (∀ b ∈ fp, H b = none) → W i n σ H →
      codeG (model X.prog X.w) Z X.A (YX X yl) (.forLoop tg (.ref it) body [] X.env) (fun r s' dl' => match r with | .ok f => SPg X pins D f s' dl' | .error _ => False) dl s := by
    intro n
    induction n using Nat.strongRecOn with
    | ind n ih =>
      intro i σ3 H3 s3 dl3 I3 d3 st3 fr3 w3
      refine codeG_of_tree ?_
      rw [Around.under_of_weight rfl]
      show wpG _ Z X.A _ _ ((forTurn tg (.ref it) body [] X.env).onRaise fun x => do noteFrame x X.env; theTreesLotGoes x) _ _ dl3 s3
      refine wpG_onRaise (wpG_mono (E := XEg X) ?_ (fun _ _ _ q => q) fun x s' _ q => (hnx x s' q).elim)
      unfold forTurn
      refine wpG_bind (wpG_standAt ?_)
      rcases turn i n σ3 H3 w3 with ⟨stop, qn⟩ | ⟨go, N, hN, step⟩
      · refine wpG_bind (wpG_of (wpAny_onRaise (wpAny_mono (T.done X rfl rfl rfl hc i _ s3 σ3 H3 X.xe (pinDd I3 d3) (notDead d3 (stat fr3) (ng i _ st3)) st3 stop) (fun r s4 ⟨hr, I4⟩ => ?_) fun x s' q => (hnx x s' q).elim)))
        subst hr
        obtain ⟨I4, d4⟩ := unpinDd d3 I4
        refine wpG_pure ⟨rfl, codeG_of_tree ?_⟩
        rw [Around.under_of_weight rfl]
        show wpG _ Z X.A _ _ ((execs [] X.env).onRaise (fun x => do noteFrame x X.env; theTreesLotGoes x) >>= fun f => pure (PySem.Fin.done f)) _ _ dl3 s4
        exact wpG_bind (wpG_of (wpAny_onRaise (wpAny_execs_nil (wpG_pure ⟨σ3, H3, I4, d4, qn⟩))))
      · refine wpG_bind (wpG_of (wpAny_onRaise (wpAny_mono (T.item X rfl rfl rfl hc i _ s3 σ3 H3 X.xe (pinDd I3 d3) (notDead d3 (stat fr3) (ng i _ st3)) st3 go) (fun r s4 ⟨u, hr, h4⟩ => ?_) fun x s' q => (hnx x s' q).elim)))
        subst hr
        refine wpG_bind (wpG_of (thn h4 fun _ s5 ⟨x, H5, I5', r5, y5, st5, fr5⟩ => ?_))
        obtain ⟨I5, d5⟩ := unpinDd d3 I5'
        have I5p := I5.pinned (stat fr5) (T.obj _ _ st5)
        refine wpG_bind (wpG_of (thn (hg.run _ s5 σ3 H5 x u _ (pinDd I5p d5) r5 (step x H5 y5)) fun _ s6 ⟨σ6, H6, I6', q6⟩ => ?_))
        obtain ⟨I6, d6⟩ := unpinDd d5 I6'
        have hbody := hb.run (.forLoop tg (.ref it) body [] X.env) _ s6 dl3 σ6 H6 _ yl I6 d6 q6
        refine wpG_bind (wpG_thn hbody fun f s7 dl7 q7 => ?_)
        have nxt : ∀ {σ7 : L2.St} {H7 : Hp}, Inv X (pins ++ pinsAt fp s5.heap) σ7 H7 s7 → Dd H7 s7 dl7 → N σ7 H7 → codeG (model X.prog X.w) Z X.A (YX X yl) (.forLoop tg (.ref it) body [] X.env) (fun r s' dl' => match r with | .ok f => SPg X pins D f s' dl' | .error _ => False) dl7 s7 := fun {σ7 H7} I7 d7 n7 => by
          obtain ⟨m', hm, w7⟩ := hN σ7 H7 n7
          refine ih m' hm (i + 1) σ7 H7 s7 dl7 I7.unpinned d7 (T.keep _ _ _ st5 fun b hb o e => (I7.pin (b, o) (List.mem_append_right _ (List.mem_append_right _ (mem_pinsAt hb e)))).1) (fun b hb => ?_) w7
          obtain ⟨o, e, _⟩ := T.obj _ _ st5 b hb
          exact (I7.pin (b, o) (List.mem_append_right _ (List.mem_append_right _ (mem_pinsAt hb e)))).2.1
        cases f with
        | next => obtain ⟨σ7, H7, I7, d7, n7⟩ := q7; exact wpG_pure ⟨rfl, nxt I7 d7 n7⟩
        | cont => obtain ⟨σ7, H7, I7, d7, n7⟩ := q7; exact wpG_pure ⟨rfl, nxt I7 d7 n7⟩
        | brk => obtain ⟨σ7, H7, I7, d7, q7⟩ := q7; exact wpG_pure ⟨σ7, H7, I7.unpinned, d7, q7⟩
        | ret v => obtain ⟨x7, σ7, H7, I7, d7, r7, q7⟩ := q7; exact wpG_pure ⟨x7, σ7, H7, I7.unpinned, d7, r7, q7⟩
  unfold runOwn run
  refine wpG_onRaise (wpG_callOwn (codeG_mono (loop m0 0 σ H2 s2 dl2 I2 d2 st2 (fun b hb => (f2 b hb).1) w0) fun r s' dl' q => ?_))
  cases r with
  | ok f => exact wpG_pure q
  | error x => exact q.elim
end
end GG
/-! G7: list comprehensions over the ghost; tuple(..) and enumerate(..) of what a def gives; targets side by side. -/
namespace GG
open PySem
open PySem.Spec
open PyProof.Rows
open L2

section
variable {M : Model} {Z : Result → Shared → Prop} {A : Around} {Y : GY} {c : Code} {E : GPost Value} {dl : List Addr} {s : Shared}
theorem wpG_run {c' : Code} {Q : GPost Flow} (hc : codeG M Z A NoY c' (fun r s' dl' => match r with | .ok f => Q f s' dl' | .error e => E e s' dl') dl s) : wpG M Z A Y c (run c') Q E dl s := by
  unfold run
  refine wpG_callNode (codeG_mono hc fun r s' dl' q => ?_)
  cases r with
  | ok f => exact wpG_pure q
  | error e => exact wpG_throw q
theorem wpG_standIf {α : Type} {cc : Prop} [Decidable cc] {pos : Pos} {k : PUnit → Sem α} {Q : GPost α} (h : wpG M Z A Y c (k ()) Q E dl s) : wpG M Z A Y c (if cc then (standAt pos >>= k) else k ()) Q E dl s := by
  split
  · exact wpG_bind (wpG_standAt h)
  · exact h
/-- behind the block's run: its slots are let go -/
def CompEnd (Q : GPost Value) (acc : Value) (C : Addr) : GPost Result := fun r s' dl' => match r with
  | .ok _ => ∃ m, s'.heap.Ns C m ∧ ∀ h', Heap.SameBut C s'.heap h' → Q acc { s' with heap := h' } dl'
  | .error _ => False
theorem wpG_comprehension {e : Expr} {scope : Scope} {env : Env} {pos : Pos} {newAcc first : Sem Value} {g : Comprehension} {gs : List Comprehension} {cl : List (Str × Addr)} {Q : GPost Value} (hcl : clausesOf e = g :: gs)
    (hs : ∀ x, foldedSetIterable g.iter env x = pure x) (hclos : closureFor scope env = pure cl) (hkind : scope.kind = .function) (hnames : ∀ x ∈ scope.names, x.2 = .local → scope.names.lookup x.1 = some .local)
    (h : wpG M Z A NoY c first (fun x s₁ dl₁ => wpG M Z A NoY c (pyIter x) (fun it s₂ dl₂ => wpAny M A newAcc (fun acc s₃ =>
      wpAny M A (newFunctionEnv scope env.globals cl [] env.qual none .none (some env)) (fun cenv s₄ =>
        codeG M Z A NoY (.compStart e 0 it acc { cenv with scope := relabel scope env }) (CompEnd Q acc cenv.locals) dl₂ s₄) (fun _ _ => False) s₃) (fun _ _ => False) s₂) E dl₁ s₁) E dl s) :
    wpG M Z A NoY c (comprehension e scope env pos newAcc false first none) Q E dl s := by
  unfold comprehension
  rw [hclos, hcl]
  refine wpG_bind (wpG_thn h fun x s₁ dl₁ h₁ => wpG_bind (wpG_standAt (wpG_bind (wpG_of_eq (hs x) (wpG_bind (wpG_holding (wpG_thn h₁ fun it s₂ dl₂ h₂ => ?_)))))))
  refine wpG_standIf (wpG_bind (wpG_of (wpAny_mono h₂ (fun acc s₃ h₃ => wpG_bind (wpG_pure (wpG_bind (wpG_of (wpAny_mono h₃ (fun cenv s₄ h₄ => ?_) fun _ _ z => z.elim))))) fun _ _ z => z.elim)))
  dsimp only
  have hv : ∀ x ∈ (scope.names.filter fun x => (x.2 == .local || x.2 == .cell) && x.1 != (".0" : Str)).reverse, x.2 = .local → Env.kindOf { cenv with scope := relabel scope env } x.1 = some .local := fun x hx hl =>
    lookup_relabel_local (hnames x (List.mem_filter.mp (List.mem_reverse.mp hx)).1 hl)
  refine wpG_holding (wpG_bind (wpG_attempt (wpG_holding (wpG_run (codeG_mono h₄ fun r s' dl' hr => ?_)))))
  cases r with
  | ok f =>
    obtain ⟨m, hn, hr⟩ := hr
    exact wpG_bind (wpG_of (wpAny_holding (wpAny_comp_letGo (cenv := { cenv with scope := relabel scope env }) hkind _ s' m hv hn fun h' m' _ hs' => wpG_pure (hr h' hs'))))
  | error x => exact hr.elim
end

section
variable {prog : Program} {w : World} {Z : Result → Shared → Prop} {A : Around} {dl : List Addr} {s : Shared} {elt target iter : Expr} {ifs : List Expr} {scope : Scope} {pos : Pos} {it acc : Value} {env : Env}
/-- the block's start: iter(it) is it -/
theorem codeG_compStart {R : GPost Result} (h0 : codeG (model prog w) Z A NoY (.compLoop (.ListComp elt [⟨target, iter, ifs, 0⟩] scope pos) 0 it acc env) R dl s)
    (h : wpAny (model prog w) A (pyIter it) (fun it' s' => codeG (model prog w) Z A NoY (.compLoop (.ListComp elt [⟨target, iter, ifs, 0⟩] scope pos) 0 it' acc env) R dl s') (fun _ _ => False) s) :
    codeG (model prog w) Z A NoY (.compStart (.ListComp elt [⟨target, iter, ifs, 0⟩] scope pos) 0 it acc env) R dl s := by
  refine codeG_of_tree ?_
  rw [Around.under_of_weight rfl]
  show wpG _ Z A NoY _ ((compStart (.ListComp elt [⟨target, iter, ifs, 0⟩] scope pos) 0 it acc env).onRaise (fun x => do noteFrame x env; standAt theWindowsPlace)) _ _ dl s
  refine wpG_of (wpAny_notedAt ?_)
  unfold compStart
  show wpAny _ _ (ask >>= _) _ _ s
  refine wpAny_bind (wpAny_askSetting (wpAny_ite ?_))
  split
  · exact wpAny_bind (wpAny_pure (wpAny_pure ⟨rfl, h0⟩))
  · refine wpAny_bind (wpAny_rule ?_)
    show wpAny _ _ (standAt iter.pos >>= _) _ _ s
    exact wpAny_bind (wpAny_standAt (wpAny_bind (wpAny_mono h (fun it' s' h' => wpAny_pure ⟨rfl, h'⟩) fun _ _ x => x.elim)))
/-- the loop's turns -/
theorem codeG_compLoop {R : GPost Result} (I : Nat → Shared → List Addr → Prop)
    (turn : ∀ n s dl, I n s dl → wpAny (model prog w) A (pyNext it) (fun r s₁ => match r with
      | none => R (.ok .next) s₁ dl
      | some v => wpAny (model prog w) A (letOwnedTupleGo target it v) (fun _ s₂ => wpAny (model prog w) A (assign target env v) (fun _ s₃ =>
          wpAny (model prog w) A (forIn ifs true fun c r => if r = true then do let ok ← isTrue c env (eval c env); pure (ForInStep.yield ok) else pure (ForInStep.yield r)) (fun ok s₄ =>
            if ok = true then wpG (model prog w) Z A NoY (.compLoop (.ListComp elt [⟨target, iter, ifs, 0⟩] scope pos) 0 it acc env) (eval elt env) (fun x s₅ dl₅ =>
              wpAny (model prog w) A (call (.builtin "list.append") [acc, x]) (fun _ s₆ => ∃ m, m < n ∧ I m s₆ dl₅) (fun _ _ => False) s₅) (fun _ _ _ => False) dl s₄
            else ∃ m, m < n ∧ I m s₄ dl) (fun _ _ => False) s₃) (fun _ _ => False) s₂) (fun _ _ => False) s₁) (fun _ _ => False) s)
    (n : Nat) (h : I n s dl) : codeG (model prog w) Z A NoY (.compLoop (.ListComp elt [⟨target, iter, ifs, 0⟩] scope pos) 0 it acc env) R dl s := by
  induction n using Nat.strongRecOn generalizing s dl with
  | ind n ih =>
    refine codeG_of_tree ?_
    rw [Around.under_of_weight rfl]
    show wpG _ Z A NoY _ ((compTurn (.ListComp elt [⟨target, iter, ifs, 0⟩] scope pos) 0 it acc env).onRaise (fun x => do noteFrame x env; theTreesLotGoes x)) _ _ dl s
    refine wpG_onRaise (wpG_mono (E := fun _ _ _ => False) ?_ (fun _ _ _ q => q) fun x s' _ q => q.elim)
    rw [compTurn_list]
    have no : ∀ x s', (fun (_ : Value) (_ : Shared) => False) x s' → False := fun _ _ z => z
    refine wpG_bind (wpG_standAt (wpG_bind (wpG_of (wpAny_mono (turn n s dl h) (fun r s₁ h₁ => ?_) no))))
    cases r with
    | none => exact wpG_pure h₁
    | some v =>
      refine wpG_bind (wpG_of (wpAny_mono h₁ (fun _ s₂ h₂ => ?_) no))
      refine wpG_bind (wpG_of (wpAny_mono h₂ (fun _ s₃ h₃ => ?_) no))
      refine wpG_bind (wpG_of (wpAny_mono h₃ (fun ok s₄ h₄ => ?_) no))
      cases ok with
      | false =>
        obtain ⟨m, hm, i⟩ := h₄
        exact wpG_pure ⟨rfl, ih m hm i⟩
      | true =>
        refine wpG_bind (wpG_bind (wpG_thn h₄ fun x s₅ dl₅ h₅ => ?_))
        refine wpG_bind (wpG_of (wpAny_mono h₅ (fun _ s₆ ⟨m, hm, i⟩ => ?_) no))
        exact wpG_pure (wpG_pure ⟨rfl, ih m hm i⟩)
end
end GG
/-! G8: [elt for target in iter if ..] over the ghost; tuple(..) of what a def gives. -/
namespace GG
open PySem
open PySem.Spec
open PyProof.Rows
open L2

section
variable {Z : Result → Shared → Prop} {X : Cx}
theorem quietF {α : Type} {t : Sem α} {U V : α → Shared → Prop} {M : Model} {A : Around} {s : Shared} (h : wpAny M A t U (fun _ _ => False) s) (f : ∀ a s, U a s → V a s) : wpAny M A t V (fun _ _ => False) s := wpAny_mono h f fun _ _ z => z
theorem peg_lc {elt tg iter : Expr} {ifs : List Expr} {scope : Scope} {own : List (Str × Nat)} {pos : Pos} {wi : TI} {g : TG} {tt : TT} {te : TE} (hc : X.calm = true) (hN : X.N.Nodup) (hi : PIg Z X tg iter wi) (ok : BlkOk X.N X.env.scope scope own)
    (hg : ∀ (s : Shared) (H : Hp) (C : Addr) (cl : List (Str × Addr)) (fp : List Addr), PG (X.blk s H scope (compEnvC scope cl C X.env) fp) tg g) (ht : ∀ (s : Shared) (H : Hp) (C : Addr) (cl : List (Str × Addr)) (fp : List Addr), PTs (X.blk s H scope (compEnvC scope cl C X.env) fp) ifs tt)
    (he : ∀ (s : Shared) (H : Hp) (C : Addr) (cl : List (Str × Addr)) (fp : List Addr), PEg Z (X.blk s H scope (compEnvC scope cl C X.env) fp) elt te) (hs : ∀ x, foldedSetIterable iter X.env x = pure x := by intro _; rfl) :
    PEg Z X (.ListComp elt [⟨tg, iter, ifs, 0⟩] scope pos) (tLc wi g tt te (own.map (·.2))) := by
  refine ⟨fun c pins s dl σ H Q I0 d0 h => ?_⟩
  have caught : ∀ y ∈ scope.names, y.2 = .free → ∃ cc, X.env.cells.lookup y.1 = some cc := fun y hy e => I0.ok.has _ ((ok.free y hy e).imp id id |>.elim .inl .inr)
  rw [eval_ListComp]
  refine wpG_comprehension rfl hs (closure_ok caught) ok.kind (fun y hy e => by rw [ok.uniq y hy, e]) (wpG_thn (hi.run c pins s dl σ H _ I0 d0 h) fun xv s1 dl1 h1 => wpG_thn h1 fun itv s2 dl2 h2 => ?_)
  obtain ⟨it, fp, tn, J, H2, ei, I2, d2, T, st2, f2, ng, q⟩ := h2
  subst ei
  refine wpAny_newObj_type (newEnv_comp ?_) (by show 0 ≤ sizeLine; decide)
  generalize hD : s2.heap.objs.size = D
  obtain ⟨W, ⟨m0, w0⟩, turn⟩ := q D (I2.hok.fresh (Nat.le_of_eq hD))
  generalize hs3 : ({ s2 with heap := s2.heap.push { cls := .type "list", data := .seq ([] : List Value).toArray } } : Shared) = s3
  have h3 : s3.heap = s2.heap.push { cls := .type "list", data := .seq ([] : List Value).toArray } := by subst hs3; rfl
  have kp3 : ∀ b o, s2.heap.get? b = some o → s3.heap.get? b = some o := fun b o e => by rw [h3]; exact Heap.get?_push_of_some _ e
  have I3 : Inv X pins σ (upd H2 D (.lst [])) s3 := by
    subst hs3
    have z := I2.laid (t' := s2.toks) (h' := s2.heap.push { cls := .type "list", data := .seq ([] : List Value).toArray }) (fun b o e => Heap.get?_push_of_some _ e) (Nat.le_of_eq hD) (o := .lst []) ⟨Nat.zero_le _, [], 0, .nil, by subst hD; exact Heap.get?_push_size _ rfl⟩
    exact z
  have small : ∀ b ∈ fp, b < s2.heap.objs.size := fun b hb => let ⟨o, e, _⟩ := T.obj _ _ st2 b hb; Heap.lt_size e
  have dsmall : ∀ b ∈ dl2, b < s2.heap.objs.size := fun b hb => let ⟨o, e, _⟩ := d2 b hb; Heap.lt_size e
  have d3 : Dd (upd H2 D (.lst [])) s3 dl2 := fun b hb => by
    obtain ⟨o, e1, e2, e3⟩ := d2 b hb
    exact ⟨o, kp3 _ _ e1, e2, by rw [upd_ne (by subst hD; exact Nat.ne_of_lt (dsmall b hb))]; exact e3⟩
  have f3 : ∀ b ∈ fp, FpOk X pins (upd H2 D (.lst [])) b ∧ b < s3.heap.objs.size := fun b hb => by
    have lt := small b hb
    refine ⟨⟨by rw [upd_ne (by subst hD; exact Nat.ne_of_lt lt)]; exact (f2 b hb).1, (f2 b hb).2⟩, ?_⟩
    rw [h3, Heap.size_push]
    exact Nat.lt_succ_of_lt lt
  have st3 : tn 0 s3.heap := T.keep _ _ _ st2 fun b _ o e => kp3 b o e
  have I4 := block_start I3 ok hN f3
  have pg := fun cl => hg s3 (upd H2 D (.lst [])) s3.heap.objs.size cl fp
  have pt := fun cl => ht s3 (upd H2 D (.lst [])) s3.heap.objs.size cl fp
  have pe := fun cl => he s3 (upd H2 D (.lst [])) s3.heap.objs.size cl fp
  replace pg := pg (cellsFrom (s3.heap.objs.size + 1) scope.names (cloFrom X.env.cells scope.names []))
  replace pt := pt (cellsFrom (s3.heap.objs.size + 1) scope.names (cloFrom X.env.cells scope.names []))
  replace pe := pe (cellsFrom (s3.heap.objs.size + 1) scope.names (cloFrom X.env.cells scope.names []))
  show codeG _ Z _ _ (.compStart (.ListComp elt [⟨tg, iter, ifs, 0⟩] scope pos) 0 (.ref it) (.ref D) (compEnvC scope (cellsFrom (s3.heap.objs.size + 1) scope.names (cloFrom X.env.cells scope.names [])) s3.heap.objs.size X.env))
    (CompEnd (EPg X pins σ Q) (.ref D) s3.heap.objs.size) dl2 { s3 with heap := pushCells (s3.heap.push { cls := .type "dict", data := .dict #[] }) scope.names }
  have nofp : ∀ b ∈ fp, (upd H2 D (.lst [])) b = none := fun b hb => (f3 b hb).1.1
  have kp4 : ∀ b o, s3.heap.get? b = some o → (pushCells (s3.heap.push { cls := .type "dict", data := .dict #[] }) scope.names).get? b = some o := fun b o e => pushCells_keeps _ _ _ _ (Heap.get?_push_of_some _ e)
  generalize hce : compEnvC scope (cellsFrom (s3.heap.objs.size + 1) scope.names (cloFrom X.env.cells scope.names [])) s3.heap.objs.size X.env = ce at I4 pg pt pe ⊢
  have cL : ce.locals = s3.heap.objs.size := by subst hce; rfl
  generalize hH3 : upd H2 D (.lst []) = H3 at I3 I4 pg pt pe w0 nofp f3 d3
  generalize hs4 : ({ s3 with heap := pushCells (s3.heap.push { cls := .type "dict", data := .dict #[] }) scope.names } : Shared) = s4 at I4 ⊢
  have h4 : s4.heap = pushCells (s3.heap.push { cls := .type "dict", data := .dict #[] }) scope.names := by subst hs4; rfl
  have st4 : tn 0 s4.heap := T.keep _ _ _ st3 fun b _ o e => by rw [h4]; exact kp4 b o e
  have d4 : Dd H3 s4 dl2 := d3.kept fun b o e => by rw [h4]; exact kp4 b o e
  have mine : ∀ {σ' : L2.St} {H' : Hp} {s' : Shared} {dl' : List Addr} {i : Nat}, Inv (X.blk s3 H3 scope ce fp) [] σ' H' s' → Dd H' s' dl' → tn i s'.heap → (∀ b ∈ fp, H' b = none) → ∀ b ∈ fp, FpOk (X.blk s3 H3 scope ce fp) ([] ++ pinsAt dl' s'.heap) H' b :=
    fun {σ' H' s' dl' i} I' d' st' hn => notDead d' (fun b hb => ⟨hn b hb, (I'.ok.exf b hb).1, I'.ok.exfs b hb, .inl hb, fun x c e => (I'.ok.exf b hb).2 x c e, fun p hp => absurd (show p ∈ ([] : List (Addr × Obj)) ++ [] from hp) (by simp)⟩) (ng i _ st')
  have mine0 : ∀ {σ' : L2.St} {H' : Hp} {s' : Shared}, Inv (X.blk s3 H3 scope ce fp) [] σ' H' s' → (∀ b ∈ fp, H' b = none) → ∀ b ∈ fp, FpOk (X.blk s3 H3 scope ce fp) [] H' b := fun {σ' H' s'} I' hn b hb =>
    ⟨hn b hb, (I'.ok.exf b hb).1, I'.ok.exfs b hb, .inl hb, fun x c e => (I'.ok.exf b hb).2 x c e, fun p hp => absurd (show p ∈ ([] : List (Addr × Obj)) ++ [] from hp) (by simp)⟩
  have loop : codeG (model X.prog X.w) Z X.A NoY (.compLoop (.ListComp elt [⟨tg, iter, ifs, 0⟩] scope pos) 0 (.ref it) (.ref D) ce) (CompEnd (EPg X pins σ Q) (.ref D) s3.heap.objs.size) dl2 s4 := by
    refine codeG_compLoop (fun n s' dl' => ∃ i H', Inv (X.blk s3 H3 scope ce fp) [] (wipe σ (own.map (·.2))) H' s' ∧ Dd H' s' dl' ∧ tn i s'.heap ∧ (∀ b ∈ fp, H' b = none) ∧ W i n H') ?_ m0 ⟨0, H3, I4, d4, st4, nofp, w0⟩
    rintro n s5 dl5 ⟨i, H5, I5, d5, st5, n5, w5⟩
    rcases turn i n H5 w5 with ⟨stop, qend⟩ | ⟨go, Nx, less, step⟩
    · refine quietF (T.done (X.blk s3 H3 scope ce fp) rfl rfl rfl hc i _ s5 _ H5 (fun _ _ => False) (pinDd I5 d5) (mine I5 d5 st5 n5) st5 stop) fun r s6 ⟨hr, I6'⟩ => ?_
      subst hr
      obtain ⟨I6, d6⟩ := unpinDd d5 I6'
      have I7 : Inv X pins σ H5 s6 := I3.call' (ch := fp) I6.os I6.base I6.hok I6.bare fun b hb => ⟨(f3 b hb).1.2.2.2.1, (f3 b hb).1.2.1, (f3 b hb).1.2.2.2.2.1, (f3 b hb).1.2.2.2.2.2⟩
      have nC : H5 s3.heap.objs.size = none := by
        have z : H5 ce.locals = none := I6.free
        rwa [cL] at z
      obtain ⟨m, hn, _⟩ := I6.loc
      have hn2 : s6.heap.Ns s3.heap.objs.size m := by rw [← cL]; exact hn
      refine ⟨m, hn2, fun h'' sb => ?_⟩
      obtain ⟨f0, f1, _, g3, g4, g5⟩ := I3.fpOk (b := s3.heap.objs.size) (Nat.le_refl _) nC
      refine ⟨.ref D, H5, I7.turned (t' := s6.toks) (fun b o hb e => (sb.2 b hb).trans e) f0 f1 g3 g4 g5, fun b hb => ?_, rfl, qend⟩
      obtain ⟨o, e1, e2, e3⟩ := d6 b hb
      refine ⟨o, (sb.2 b fun z => ?_).trans e1, e2, e3⟩
      subst z
      obtain ⟨oL, es, ep, hoL, hdL, _⟩ := hn2
      rw [hoL] at e1; cases e1
      obtain ⟨vs, hd⟩ := genNumber_fields e2
      rw [hd] at hdL; cases hdL
    · refine quietF (T.item (X.blk s3 H3 scope ce fp) rfl rfl rfl hc i _ s5 _ H5 (fun _ _ => False) (pinDd I5 d5) (mine I5 d5 st5 n5) st5 go) fun r s6 ⟨u, hr, h6⟩ => ?_
      subst hr
      refine quietF h6 fun _ s7 ⟨x, H7, I7', r7, y7, st7, n7⟩ => ?_
      obtain ⟨I7, d7⟩ := unpinDd d5 I7'
      have I7p := I7.pinned (mine0 I7 n7) (T.obj _ _ st7)
      refine quietF (pg.run _ s7 _ H7 x u _ (pinDd I7p d7) r7 (step x H7 y7)) fun _ s8 ⟨σ8, H8, I8', same, q8⟩ => ?_
      obtain ⟨I8, d8⟩ := unpinDd d7 I8'
      refine quietF (pt.run _ s8 σ8 H8 _ (pinDd I8 d8) q8) fun b s9 ⟨H9, I9', q9⟩ => ?_
      obtain ⟨I9, d9⟩ := unpinDd d8 I9'
      have next : ∀ {s' : Shared} {H' : Hp} {dl' : List Addr}, Inv (X.blk s3 H3 scope ce fp) ([] ++ pinsAt fp s7.heap) σ8 H' s' → Dd H' s' dl' → Nx H' → ∃ m, m < n ∧ ∃ i H', Inv (X.blk s3 H3 scope ce fp) [] (wipe σ (own.map (·.2))) H' s' ∧ Dd H' s' dl' ∧ tn i s'.heap ∧ (∀ b ∈ fp, H' b = none) ∧ W i m H' := fun {s' H' dl'} I' d' nx => by
        obtain ⟨m', hm, w'⟩ := less H' nx
        have still : ∀ b ∈ fp, ∀ o, s7.heap.get? b = some o → s'.heap.get? b = some o ∧ H' b = none := fun b hb o e =>
          let z := I'.pin (b, o) (List.mem_append_right _ (List.mem_append_right _ (mem_pinsAt hb e)))
          ⟨z.1, z.2.1⟩
        refine ⟨m', hm, i + 1, H', (I'.unpinned (pins := [])).weak (by rw [← same, wipe_length]) (fun j v e => by rw [← same] at e; exact (wipe_some e).1), d', T.keep _ _ _ st7 fun b hb o e => (still b hb o e).1, fun b hb => ?_, w'⟩
        obtain ⟨o, e, _⟩ := T.obj _ _ st7 b hb
        exact (still b hb o e).2
      cases b with
      | false =>
        simp only [Bool.false_eq_true, if_false] at q9 ⊢
        exact next I9 d9 q9
      | true =>
        simp only [if_true] at q9 ⊢
        refine wpG_thn (pe.run _ _ s9 dl5 σ8 H9 _ I9 d9 q9) fun z s10 dl10 ⟨yv, H10, I10, d10, r10, acc, hD10, hz10, nx⟩ => ?_
        refine app_ok (X := X.blk s3 H3 scope ce fp) (pinDd I10 d10) hD10 hz10 r10 fun s11 I11' => ?_
        obtain ⟨I11, d11⟩ := unpinDd d10 I11'
        exact next I11 d11 nx
  refine codeG_compStart loop ?_
  have z := T.self X.A 0 s4 (fun it' s' => codeG (model X.prog X.w) Z X.A NoY (.compLoop (.ListComp elt [⟨tg, iter, ifs, 0⟩] scope pos) 0 it' (.ref D) ce) (CompEnd (EPg X pins σ Q) (.ref D) s3.heap.objs.size) dl2 s') (fun _ _ => False) st4 loop
  exact z

/-! ### tuple(..) of a list that the comprehension makes -/
section
variable {M : Model} {A : Around} {Y : GY} {c : Code} {E : GPost Value} {dl : List Addr} {s : Shared}
/-- a type's call with one argument -/
theorem wpG_callType1 {pos : Pos} {T : String} {t : Sem Value} {Q : GPost Value} (h : wpG M Z A Y c t (fun v s1 dl1 => wpG M Z A Y c (call (.type T) [v]) Q E dl1 s1) E dl s) : wpG M Z A Y c (callWith pos (.type T) [] [(false, t)] []) Q E dl s := by
  unfold callWith
  refine wpG_bind (wpG_holding ?_)
  unfold evalArgs
  show wpG M Z A Y c (spliced [(false, t)] >>= _) _ E dl s
  rw [spliced]
  refine wpG_bind (wpG_bind (wpG_thn h fun v s1 dl1 h1 => ?_))
  simp only [Bool.false_eq_true, if_false]
  refine wpG_bind (wpG_pure (wpG_bind (wpG_holding (wpG_of (PySem.Calls.spliced_nil (wpG_pure ?_))))))
  refine wpG_holding ?_
  refine wpG_bind (wpG_pure (wpG_bind (wpG_pure (wpG_pure ?_))))
  refine wpG_bind (wpG_standAt ?_)
  have hpl : (([(false, t)] : List (Bool × Sem Value)).any (·.1) || ([] : List (Option Str × Sem Value)).any (·.1.isNone)) = false := rfl
  simp only [hpl]
  refine wpG_bind (wpG_pure ?_)
  exact wpG_bind (wpG_thn h1 fun r s2 dl2 hr => wpG_bind (wpG_holding (wpG_of (wpAny_point (wpG_pure hr)))))
end
theorem peg_tupleOf {a : Expr} {ta : TE} {p pos : Pos} (hg : Gl X "tuple") (hm : X.mg "tuple" = none) (ha : PEg Z X a ta) (na : starEach [a] X.env = (false, eval a X.env) :: starEach [] X.env := by rfl) :
    PEg Z X (.Call (.Name "tuple" p) [a] [] pos) (tThen ta (kTup X.K)) := by
  refine ⟨fun c pins s dl σ H Q I d h => ?_⟩
  show wpG _ Z X.A NoY c (eval (.Name "tuple" p) X.env >>= fun fv => callWith pos fv [] (backTo pos (starEach [a] X.env)) []) _ _ dl s
  refine wpG_bind (wpG_of (ld_blt I hg hm boot_tuple ?_))
  rw [na]
  show wpG _ Z X.A NoY c (callWith pos (.type "tuple") [] [(false, eval a X.env)] []) _ _ dl s
  refine wpG_callType1 (wpG_thn (ha.run c pins s dl σ H _ I d h) fun v s1 dl1 ⟨x, H1, I1, d1, r1, q1⟩ => ?_)
  refine quiet_ep I1 d1 fun pins' I1' => ?_
  refine thn (rl_tuple pins' s1 σ H1 x v Q I1' r1 q1) fun u s2 ⟨y, H2, I2, r2, q2⟩ k => ?_
  obtain ⟨k1, k2⟩ := k _ _ I2
  exact ⟨y, H2, k1, k2, r2, q2⟩
end
end GG
/-! G9: generators over the ghost of which only the first item is asked: their defs, yield, yield from, the first turn of a for. -/
namespace GG
open PySem
open PySem.Spec
open PyProof.Rows
open L2

section
variable {α : Type} {M : Model} {Z : Result → Shared → Prop} {A : Around} {Y : GY} {c : Code} {E : GPost Value} {dl : List Addr} {s : Shared}
theorem wpG_Y {Y' : GY} {t : Sem α} {Q : GPost α} (h : wpG M Z A Y c t Q E dl s) (k : ∀ v s dl, Y v s dl → Y' v s dl) : wpG M Z A Y' c t Q E dl s :=
  fun K J gd lv st hin hg hy hQ hE p => h K J gd lv st hin (hg.imp id fun n v s dl z => n v s dl (k v s dl z)) (fun v s dl z => hy v s dl (k v s dl z)) hQ hE p
theorem codeG_Y {Y' : GY} {R : GPost Result} (h : codeG M Z A Y c R dl s) (k : ∀ v s dl, Y v s dl → Y' v s dl) : codeG M Z A Y' c R dl s :=
  fun st hb hy hk p => h st hb (fun v s dl z => hy v s dl (k v s dl z)) hk p
theorem below_gen {c0 : Code} {g : Nat} {k : GenResult → Sem PySem.Fin} {l : List Value} {p : Pos} {st : List Frame} (h : (PySem.Ctx.of c st).In A) : (PySem.Ctx.of c0 (.gen g k l c p :: st)).Below A := by
  have e : PySem.Ctx.of c0 (.gen g k l c p :: st) = (PySem.Ctx.of c st).wake c0 p := by
    have f1 := PySem.Ctx.fits_of c0 (.gen g k l c p :: st)
    have f2 := PySem.Ctx.Fits.wake (PySem.Ctx.fits_of c st) c0 g k l p
    show (⟨c0, topHandled _, topHandled _, _, _⟩ : PySem.Ctx) = ⟨c0, _, _, _, _⟩
    rw [PySem.Ctx.mk.injEq]
    exact ⟨rfl, f2.handled.symm, f2.own.symm, rfl, f2.past.symm⟩
  rw [e]
  exact (h.wake c0 p).1
/-- a generator that has not begun is woken: its first item, or its end -/
theorem wpG_resumeFresh {g : Nat} {c0 : Code} {l : List Value} {k : GenResult → Sem α} {Q : GPost α} (hg : s.gens[g]? = some (.fresh c0))
    (hc : codeG M Z A (fun v s' dl' => ∀ x : GenState, x.bare = true → wpG M Z A Y c (k (.yielded v)) Q E dl' (s'.setGen g x)) c0 (fun r s' dl' => wpG M Z A Y c (k (End.ret r).result) Q E dl' (s'.setGen g .finished)) dl (s.setGen g .running)) :
    wpG M Z A Y c (.resume g (.send .none) l k) Q E dl s := by
  intro K J gd lv st hin hgd hy hQ hE p
  refine .step (step_resume_fresh M s c p st _ _ hg) ?_
  refine hc _ (below_gen hin) ?_ (fun r c' p' s' dl' q => ?_) p
  · intro v s' dl' hv
    exact ⟨[], g, _, c, p, st, rfl, rfl, fun x hx => hv x hx K J gd lv st hin hgd hy hQ hE p⟩
  · exact .step (step_exit_gen (M := M) (pre' := []) (e₁ := .ret r) s' g _ _ c p st ⟨rfl, rfl⟩ rfl) (q K J gd lv st hin hgd hy hQ hE p)
/-- an item is handed out -/
theorem wpG_yieldOut {v : Value} {l : List Value} {k : Resume → Sem α} {Q : GPost α} (h : Y v s dl) : wpG M Z A Y c (.yield v false l k) Q E dl s := by
  intro K J gd lv st hin hgd hy hQ hE p
  obtain ⟨fs, g, k', c', p', rest, h1, h2, h3⟩ := hy v s dl h
  rcases hgd with ⟨g0, _⟩ | n
  · have hq : (End.susp v (gd false) (lv l) (fun r => (k r).wrap K J gd lv) c p fs).quiet = true := by
      simp [End.quiet, g0, h2]
    exact .step (step_yield M s c p st v _ _ _ h1 hq) (h3 _ (End.bare_of_quiet hq))
  · exact (n _ _ _ h).elim
theorem wpG_yieldLoud {it : Addr} {more : List Value} {kw : List (Str × Value)} {v : Value} {l : List Value} {k : Resume → Sem α} {Q : GPost α} (hg : GenAtO s.heap it) (h : Y v s (it :: dl)) : wpG M Z A Y (yfCode it more kw) (.yield v true l k) Q E dl s := by
  intro K J gd lv st hin hgd hy hQ hE p
  obtain ⟨fs, g, k', c', p', rest, h1, h2, h3⟩ := hy v s _ h
  rcases hgd with ⟨_, g1⟩ | n
  · show Go M Z dl s ⟨.yield v (gd true) (lv l) _, _, p, st⟩
    rw [g1]
    exact .loud h1 h2 hg (h3 _ rfl)
  · exact (n _ _ _ h).elim
theorem wpG_runValueOwn {c' : Code} {Q : GPost Value} (hc : codeG M Z A Y c' (fun r s' dl' => match r with | .ok (.ret v) => Q v s' dl' | .ok _ => False | .error e => E e s' dl') dl s) : wpG M Z A Y c (runValue c') Q E dl s := by
  unfold runValue run
  refine wpG_bind (wpG_callOwn ?_)
  refine codeG_mono hc fun r s' dl' q => ?_
  cases r with
  | ok f =>
    cases f with
    | ret v => exact wpG_pure (wpG_pure q)
    | next => exact q.elim
    | brk => exact q.elim
    | cont => exact q.elim
  | error e => exact wpG_throw q
end

section
variable {P : Program} {w : World} {Z : Result → Shared → Prop} {A : Around} {Y : GY} {c : Code} {E : GPost Value} {dl : List Addr} {s : Shared}
theorem codeG_call_builtin {id : String} {args : Args} {b : Builtin} {R : GPost Result} (hq : plainId id = true) (hb : entryFor table id = some b)
    (h : wpAny (model P w) A.in1 (checkBuiltinCall id args) (fun _ s1 => wpG (model P w) Z A.in1 NoY (.builtin id args) (b args)
      (fun fin s' dl' => match fin with | .done f => R (.ok f) s' dl' | .again c' => c'.quiet = true ∧ codeG (model P w) Z A NoY c' R dl' s') (fun e s' dl' => R (.error e) s' dl') dl s1) (fun _ _ => False) s) :
    codeG (model P w) Z A NoY (.call (.builtin id) args) R dl s := by
  refine codeG_of_tree ?_
  show wpG _ Z A.in1 NoY _ (checkBuiltinCall id args >>= fun _ => again (.builtin id args)) _ _ dl s
  refine wpG_bind (wpG_of (wpAny_mono h (fun _ s1 h1 => wpG_pure (And.intro (plainId_quiet hq args) (codeG_of_tree ?_))) fun _ _ z => z.elim))
  rw [Around.under_plainId hq args]
  show wpG _ Z A.in1 NoY _ (match entryFor table id with | some b => b args | none => unsupported ((withoutEnding? id "#data").getD id)) _ _ dl s1
  rw [hb]; exact h1
/-- next(generator) where it has not begun -/
theorem wpG_nextFresh {a : Addr} {g : Nat} {c0 : Code} {Q : GPost (Option Value)} (hh : A.handled = none) (hl : s.heap.NoLimit) (hroom : A.depth < recursionLimit) (hg : s.heap.IsGen a g) (hgs : s.gens[g]? = some (.fresh c0))
    (hc : codeG (model P w) Z A.in1 (fun v s' dl' => ∀ x : GenState, x.bare = true → Q (some v) (s'.setGen g x) dl') c0
      (fun r s' dl' => (r = .ok (.ret .none) ∨ r = .ok .next) ∧ ∀ e h', StopX e h' → (∀ b o, s'.heap.get? b = some o → h'.get? b = some o) → E e { s'.setGen g .finished with heap := h' } dl') dl (s.setGen g .running)) :
    wpG (model P w) Z A Y c (callSpecial? (.ref a) "__next__") Q E dl s := by
  simp only [callSpecial?]
  refine wpG_bind (wpG_of (wpAny_specialOf hg.typeIs slot_gen_next.lookup ?_))
  simp only [slot_gen_next.bind]
  refine wpG_holding (wpG_bind (wpG_pure (wpG_bind (wpG_thn (Q := fun v s' dl' => Q (some v) s' dl') ?_ fun v s' dl' h' => wpG_pure h'))))
  refine wpG_call (codeG_call_builtin slot_gen_next.plain entry_gen_next (slot_gen_next.check _ _ _ _ _ _ _ _ hg.typeIs (args_gen_next _) ?_))
  show wpG _ Z A.in1 NoY _ (Builtin.Generator.genWake (.ref a) (.send .none)) _ _ dl s
  unfold Builtin.Generator.genWake
  refine wpG_bind (wpG_holding (wpG_of (wpAny_genNumber hg ?_)))
  refine wpG_bind (wpG_of (wpAny_genState hgs ?_))
  refine wpG_bind (wpG_of (wpAny_roomToWake hl hroom ?_))
  refine wpG_bind ?_
  show wpG _ Z A.in1 NoY _ (.resume g (.send .none) [] .pure) _ _ dl s
  refine wpG_resumeFresh hgs (codeG_Y (codeG_mono hc fun r s' dl' q => ?_) fun v s' dl' q x hx => ?_)
  · obtain ⟨hr, he⟩ := q
    have hres : End.result (.ret r) = .returned .none := by
      rcases hr with hr | hr <;> rw [hr] <;> rfl
    rw [hres]
    refine wpG_pure ?_
    refine wpG_of ?_
    show wpAny _ A.in1 (newExc (.type "StopIteration") [] >>= _) _ _ _
    refine wpAny_bind ?_
    simp only [newExc, newTuple]
    refine wpAny_bind (wpAny_newObj_type ?_ (by size_fits))
    refine wpAny_bind (m := firstArgMember _ _) (wpAny_of_eq (a := Value.none) (by first | rfl | (simp only [firstArgMember]; rfl)) ?_)
    refine wpAny_newObj_type ?_ (by size_fits)
    simp only [raiseNew]
    refine wpAny_bind (wpAny_bind (wpAny_handled ?_))
    first | rw [show A.in1.handled = none from hh] | rw [hh]
    refine wpAny_throw ?_
    refine he _ _ ⟨_, _, _, rfl, Heap.get?_push_size _ rfl, rfl, rfl, ?_⟩ fun b o hb => Heap.get?_push_of_some _ (Heap.get?_push_of_some _ hb)
    first
      | rfl
      | (rw [Array.getElem?_append_left (by decide)]; rfl)
      | kernel_rfl
  · exact wpG_pure (wpG_pure (q x hx))
theorem wpG_pyNextFresh {a : Addr} {g : Nat} {c0 : Code} {Q : GPost (Option Value)} (hh : A.handled = none) (hl : s.heap.NoLimit) (hroom : A.depth < recursionLimit) (hg : s.heap.IsGen a g) (hgs : s.gens[g]? = some (.fresh c0))
    (hc : codeG (model P w) Z A.in1 (fun v s' dl' => ∀ x : GenState, x.bare = true → Q (some v) (s'.setGen g x) dl') c0
      (fun r s' dl' => (r = .ok (.ret .none) ∨ r = .ok .next) ∧ ∀ h', (∀ b o, s'.heap.get? b = some o → h'.get? b = some o) → Q none { s'.setGen g .finished with heap := h' } dl') dl (s.setGen g .running)) :
    wpG (model P w) Z A Y c (pyNext (.ref a)) Q E dl s := by
  unfold pyNext
  refine wpG_bind (wpG_attempt (wpG_nextFresh hh hl hroom hg hgs (codeG_Y (codeG_mono hc fun r s' dl' q => ⟨q.1, fun e h' hs hk => ?_⟩) fun v s' dl' q x hx => wpG_pure (q x hx))))
  obtain ⟨a', o, vs, rfl, ho, hcl, hd, h5⟩ := hs
  refine wpG_bind (wpG_of (wpAny_isInstance (T := "StopIteration") (b := true) ⟨o, ho, hcl⟩ isSubtype_stop ?_))
  exact wpG_pure (q.2 h' hk)
end

/-! ### a generator def's promise -/
/-- an item comes out -/
def YGen (P : Program) (w : World) (outer : List Env) (H : Hp) (s : Shared) (a : Addr) (g : Nat) (Qy : VK) : GY := fun v s3 dl3 =>
  ∃ x H', s3.os = s.os ∧ AllBare s3.gens ∧ Un (frs outer) [] H H' s.heap s3.heap ∧ HOk P w H' s3.heap ∧ RelV x v ∧ Qy x H' ∧ Dd H' s3 dl3 ∧ s3.heap.IsGen a g ∧ H' a = none
def RGen (P : Program) (w : World) (outer : List Env) (H : Hp) (s : Shared) (Qe : Hp → Prop) : GPost Result := fun r s3 dl3 =>
  (r = .ok (.ret .none) ∨ r = .ok .next) ∧ ∃ H', s3.os = s.os ∧ AllBare s3.gens ∧ Un (frs outer) [] H H' s.heap s3.heap ∧ HOk P w H' s3.heap ∧ Qe H' ∧ Dd H' s3 dl3
/-- a generator that has not begun -/
def GIn (Z : Result → Shared → Prop) (P : Program) (w : World) (k : Nat) (outer : List Env) (H : Hp) (s : Shared) (Qy : VK) (Qe : Hp → Prop) (u : Value) (s' : Shared) : Prop :=
  ∃ a g c, u = .ref a ∧ s.heap.objs.size ≤ a ∧ s'.heap.IsGen a g ∧ s'.gens[g]? = some (.fresh c) ∧ s'.os = s.os ∧ AllBare s'.gens ∧ s'.heap.NoLimit ∧ (∀ b o, s.heap.get? b = some o → s'.heap.get? b = some o) ∧
    ∀ (A : Around) (dl : List Addr), Room k A → A.frames = some outer → Dd H s dl → codeG (model P w) Z A (YGen P w outer H s a g Qy) c (RGen P w outer H s Qe) dl (s'.setGen g .running)
abbrev SpGG := List V → Hp → VK → (Hp → Prop) → Prop
structure GFnG (Z : Result → Shared → Prop) (P : Program) (w : World) (K : PySem.W.Frag) (mg : Str → Option Value) (base : Heap) (k : Nat) (f : Addr) (fd : FuncData) (ps : List Str) (sp : SpGG) : Prop where
  len : ∀ vs H Q E, sp vs H Q E → vs.length = ps.length
  run : ∀ (A : Around) (outer : List Env) (s : Shared) (H : Hp) (args : Args) (us : List Value) (vs : List V) (Qy : VK) (Qe : Hp → Prop), Room k A → Env0 P w K mg base A outer s H → BindsTo s fd args (ps.zip us) → Vals vs us → sp vs H Qy Qe →
    codeAny (model P w) A (.call (.ref f) args) (fun r s' => match r with | .ok (.ret u) => GIn Z P w k outer H s Qy Qe u s' | _ => False) s
theorem AllBare.set {gens : Array GenState} {g : Nat} {x : GenState} (h : AllBare gens) (hx : x.bare = true) : AllBare (gens.setIfInBounds g x) := fun y hy => by
  obtain ⟨i, hi, e⟩ := Array.mem_iff_getElem.mp hy
  rw [Array.getElem_setIfInBounds (by simpa using hi)] at e
  split at e
  · subst e; exact hx
  · subst e; exact h _ (Array.getElem_mem _)
section
variable {Z : Result → Shared → Prop} {P : Program} {w : World} {K : PySem.W.Frag} {mg : Str → Option Value} {base : Heap}
/-- THE RULE for a generator def over the ghost -/
theorem Fun.gen {x qual : Str} {st : Stmt} {f : Addr} {fd : FuncData} {N ps : List Str} {k : Nat} {sp : SpGG} (F : Fun K x qual st f fd) (S : GScope N ps (defScope st)) (len : ∀ vs H Q E, sp vs H Q E → vs.length = ps.length)
    (hbody : ∀ (cdv : Value) (A : Around) (outer : List Env) (s : Shared) (H : Hp) (vs : List V) (Qy : VK) (Qe : Hp → Prop) (pn : List (Addr × Obj)), Room k (A.deeper (envOfC qual (defScope st) s.heap.objs.size f cdv)) → sp vs H Qy Qe →
      ∃ t, PSsg Z (gcxOf P w K mg base N qual (defScope st) f cdv A outer s H E0 pn).nox (defBody st) t ∧ t { nx := fun _ H' => Qe H', rt := fun v H' => v = .non ∧ Qe H' } Qy (start N vs) H) : GFnG Z P w K mg base (k + 1) f fd ps sp := by
  obtain ⟨oc, od, kV, doc, pm, an, cdv, ct, osl, rfl, lk, hcd⟩ := F.ex
  refine ⟨len, fun A outer s H args us vs Qy Qe hr e0 hb r hsp => ?_⟩
  have hl := len _ _ _ _ hsp
  have KX : K.In s.heap := e0.mod.kin.keeps fun b o e => (e0.bs b o e).1
  have lim : s.heap.NoLimit := e0.mod.nolimit.keeps fun b o e => (e0.bs b o e).1
  have hkind : ∀ y ∈ ps.zip us, (defScope st).names.lookup y.1 = some .local ∨ ((defScope st).names.lookup y.1 = some .cell ∧ ((cellsFrom (s.heap.objs.size + 1) (defScope st).names []).lookup y.1).isSome = true) := fun ⟨n, v⟩ hy => by
    rcases S.par n (List.of_mem_zip hy).1 with q | q
    · exact .inl q
    · exact .inr ⟨q, PySem.W.cellsFrom_some _ _ _ (.inl q)⟩
  refine codeAny_call_generator hr.depth (KX _ _ lk) rfl S.co S.gen rfl (PySem.W.codeRec_of KX hcd) (hb _ _ _ _ ?_)
  refine wpAny_newFunctionEnv_cells S.kind hkind fun env he s1 xx => ?_
  subst he
  have lim1 : s1.heap.NoLimit := lim.keeps xx.toInCall.keep
  refine ⟨lim1, ?_⟩
  obtain ⟨h1, tk, es1, hk1⟩ := xx.done
  have os1 : s1.os = s.os := by rw [es1]
  have gen1 : s1.gens = s.gens := by rw [es1]
  have lt1 : s.heap.objs.size < s1.heap.objs.size := xx.toInCall.ns.lt
  have sz1 : s.heap.objs.size ≤ s1.heap.objs.size := Nat.le_of_lt lt1
  have kp1 : ∀ b o, s.heap.get? b = some o → s1.heap.get? b = some o := xx.toInCall.keep
  have main : ∀ (go : Obj) (nm qn : Value) (tk2 : Nat), go.cls = .type "generator" → go.data = .fields #[.int s1.gens.size 0, nm, qn] → go.slots = #[] → (∀ h : Heap, (h.push go).get? h.objs.size = some go) →
      GIn Z P w (k + 1) outer H s Qy Qe (.ref s1.heap.objs.size) { s1 with gens := s1.gens.push (.fresh (.func (defBody st) (envOfC qual (defScope st) s.heap.objs.size f cdv))), toks := tk2, heap := s1.heap.push go } := by
    intro go nm qn tk2 hgc hgd0 hgs hgp
    have hgen : ∀ h : Heap, h.get? s1.heap.objs.size = some go → h.IsGen s1.heap.objs.size s1.gens.size := fun h e => ⟨go, nm, qn, e, hgc, hgd0, hgs⟩
    have hpushed : (s1.heap.push go).get? s1.heap.objs.size = some go := hgp _
    have bare1 : AllBare (s1.gens.push (.fresh (.func (defBody st) (envOfC qual (defScope st) s.heap.objs.size f cdv)))) := AllBare.push (by rw [gen1]; exact e0.bare) rfl
    have kp2 : ∀ b o, s1.heap.get? b = some o → (s1.heap.push go).get? b = some o := fun b o e => Heap.get?_push_of_some _ e
    refine ⟨s1.heap.objs.size, s1.gens.size, _, rfl, sz1, hgen _ hpushed, Array.getElem?_push_size .., os1, bare1, lim1.keeps kp2, fun b o e => kp2 _ _ (kp1 b o e), ?_⟩
    intro Aw dl hrw hfr hd
    have e0w : Env0 P w K mg base Aw outer s H := ⟨hfr, e0.mod, e0.bs, e0.bsz, e0.funs, e0.frf, e0.hok, e0.bare⟩
    obtain ⟨t, ht, hq⟩ := hbody cdv Aw outer s H vs Qy Qe [(s1.heap.objs.size, go)] (hrw.deeper _) hsp
    have I1 : Inv (gcxOf P w K mg base N qual (defScope st) f cdv Aw outer s H E0 []) [] (start N vs) H s1 := inv_startG S hrw.hd e0w hl r xx
    generalize hs2 : (({ s1 with gens := s1.gens.push (.fresh (.func (defBody st) (envOfC qual (defScope st) s.heap.objs.size f cdv))), toks := tk2, heap := s1.heap.push go } : Shared).setGen s1.gens.size .running) = s2
    have hh2 : s2.heap = s1.heap.push go := by subst hs2; rfl
    have os2 : s2.os = s1.os := by subst hs2; rfl
    have ba2 : AllBare s2.gens := by subst hs2; exact AllBare.set bare1 rfl
    have kps : ∀ b o, s1.heap.get? b = some o → s2.heap.get? b = some o := fun b o e => by rw [hh2]; exact kp2 b o e
    have I2 : Inv (gcxOf P w K mg base N qual (defScope st) f cdv Aw outer s H E0 []) [] (start N vs) H s2 :=
      I1.call' (ch := []) os2 (Un.kept kps) (I1.hok.kept kps) ba2 fun b z => by simp at z
    have young : ∀ b, s1.heap.objs.size ≤ b → H b = none ∧ b ≠ s.heap.objs.size ∧ b ∉ frs outer := fun b hb => ⟨I1.hok.fresh hb, Nat.ne_of_gt (Nat.lt_of_lt_of_le lt1 hb), I1.nofs hb⟩
    have I3 : Inv (gcxOf P w K mg base N qual (defScope st) f cdv Aw outer s H E0 [(s1.heap.objs.size, go)]) [] (start N vs) H s2 := Inv.pinnedG I2 fun p hp => by
      rw [List.append_nil] at hp
      rw [List.mem_singleton.mp hp]
      obtain ⟨y1, y2, y3⟩ := young s1.heap.objs.size (Nat.le_refl _)
      exact ⟨by rw [hh2]; exact hpushed, y1, y2, y3, fun v q => by rw [hgd0] at q; cases q⟩
    have pinned : ∀ {σ' : L2.St} {H' : Hp} {s' : Shared} {pins : List (Addr × Obj)}, Inv (gcxOf P w K mg base N qual (defScope st) f cdv Aw outer s H E0 [(s1.heap.objs.size, go)]).nox pins σ' H' s' → s'.heap.IsGen s1.heap.objs.size s1.gens.size ∧ H' s1.heap.objs.size = none := fun {σ' H' s' pins} J => by
      have z := J.pin (s1.heap.objs.size, go) (List.mem_append_left _ (List.mem_singleton.mpr rfl))
      exact ⟨hgen _ z.1, z.2.1⟩
    refine codeG_func (E := fun _ _ _ => False) ?_ fun _ _ _ z => z
    have run := ht.run (.func (defBody st) (envOfC qual (defScope st) s.heap.objs.size f cdv)) [] s2 dl (start N vs) H { nx := fun _ H' => Qe H', rt := fun v H' => v = .non ∧ Qe H' } Qy (I3.wish fun _ _ => False) ((hd.kept kp1).kept kps) hq
    refine wpG_mono (wpG_Y run fun v s' dl' ⟨y, pins, σ', H', J, dd, rv, q⟩ => ?_) (fun fl s' dl' hs => ?_) fun _ _ _ z => z
    · obtain ⟨g1, g2⟩ := pinned J
      exact ⟨y, H', J.os, J.bare, J.base, J.hok, rv, q, dd, g1, g2⟩
    · have fin : ∀ {σ' : L2.St} {H' : Hp}, Inv (gcxOf P w K mg base N qual (defScope st) f cdv Aw outer s H E0 [(s1.heap.objs.size, go)]).nox [] σ' H' s' → Dd H' s' dl' → Qe H' → RGen P w outer H s Qe (.ok (.ret .none)) s' dl' := fun {σ' H'} J dd q => ⟨.inl rfl, H', J.os, J.bare, J.base, J.hok, q, dd⟩
      cases fl with
      | ret u =>
        obtain ⟨v, σ', H', J, dd, rv, ev, q⟩ := hs
        subst ev
        have eu : u = Value.none := rv
        subst eu
        exact fin J dd q
      | next =>
        obtain ⟨σ', H', J, dd, q⟩ := hs
        exact fin J dd q
      | brk => obtain ⟨_, _, _, _, q⟩ := hs; exact q.elim
      | cont => obtain ⟨_, _, _, _, q⟩ := hs; exact q.elim
  exact main _ _ _ _ rfl rfl rfl fun h => Heap.get?_push_size _ rfl
end

/-! ### an expression that makes a generator -/
abbrev TGe := L2.St → Hp → VK → (Hp → Prop) → Prop
structure PGen (Z : Result → Shared → Prop) (X : Cx) (e : Expr) (t : TGe) : Prop where
  run : ∀ (pins : List (Addr × Obj)) (s : Shared) (σ : L2.St) (H : Hp) (Qy : VK) (Qe : Hp → Prop), Inv X pins σ H s → t σ H Qy Qe →
    wpAny (model X.prog X.w) X.A (eval e X.env) (fun u s' => ∃ k s1 H1, Room k X.A.in1.in1 ∧ X.A.handled = none ∧ Inv X pins σ H1 s1 ∧ GIn Z X.prog X.w k X.stack H1 s1 Qy Qe u s') X.xe s
theorem room_twice {k : Nat} {A : Around} (r : Room (k + 1) A) : Room k A.in1.in1 := ⟨r.hd, by have := r.dp; show A.depth + 3 * k + 5 < _; omega, by have := r.un; show A.units + 1 + 1 + 16 * k + 200 < _; omega⟩
section
variable {Z : Result → Shared → Prop} {X : Cx} {k : Nat} {f C : Addr} {fd : FuncData} {ps : List Str} {sp : SpGG} {dvs : List V} {ds : List Value} {m : Str} {p pos apos yp : Pos} {e o : Expr} {es : List Expr} {ta te : TE} {t : TA}
theorem run_gfn {pins : List (Addr × Obj)} {σ : L2.St} {H : Hp} {s : Shared} {Qy : VK} {Qe : Hp → Prop} {us : List Value} {vs : List V} (F : GFnG Z X.prog X.w X.K X.mg X.base k f fd ps sp) (hr : Room (k + 1) X.A) (hb : Binds X.K fd ps ds) (hd : Vals dvs ds)
    (I : Inv X pins σ H s) (r : Vals vs us) (h : sp (vs ++ dvs) H Qy Qe) : wpAny (model X.prog X.w) X.A (call (.ref f) us) (fun u s' => ∃ k s1 H1, Room k X.A.in1.in1 ∧ X.A.handled = none ∧ Inv X pins σ H1 s1 ∧ GIn Z X.prog X.w k X.stack H1 s1 Qy Qe u s') X.xe s := by
  have r2 : Vals (vs ++ dvs) (us ++ ds) := r.append hd
  have hl : (us ++ ds).length = ps.length := by rw [← r2.length]; exact F.len _ _ _ _ h
  refine wpAny_call (codeAny_mono (F.run X.A X.stack s H ⟨us, []⟩ (us ++ ds) (vs ++ dvs) Qy Qe (hr.mono (Nat.le_succ k)) I.env0 (hb s us I.kIn hl) r2 h) fun r s' q => ?_)
  cases r with
  | error _ => exact q.elim
  | ok fl =>
    cases fl with
    | ret u => exact ⟨k, s, H, room_twice hr, hr.hd, I, q⟩
    | next => exact q.elim
    | brk => exact q.elim
    | cont => exact q.elim
def tMethG (C : Addr) (m : Str) (sp : SpGG) (dvs : List V) (ta : TE) (t : TA) : TGe := fun σ H Qy Qe => ta σ H fun x H1 => ∃ a dx fs, x = .ref a ∧ H1 a = some (.ins C dx fs) ∧ fs.lookup m = none ∧ t σ H1 fun vs H2 => sp (x :: (vs ++ dvs)) H2 Qy Qe
theorem pgen_meth {pl : Sem Bool} (he : PE X o ta) (cl : Cls X.K C) (hm : Meth X.K C m f) (F : GFnG Z X.prog X.w X.K X.mg X.base k f fd ps sp) (hr : Room (k + 1) X.A) (hb : Binds X.K fd ps ds) (hd : Vals dvs ds) (ha : PA X (e :: es) t)
    (hst : starEach (e :: es) X.env = (false, eval e X.env) :: starEach es X.env := by rfl) (hpl : (backTo pos (starEach es X.env)).any (·.1) = false := by rfl)
    (ht : eval (.Call (.Attribute o m apos) (e :: es) [] pos) X.env = (do
      let ov ← eval o X.env
      standAt apos.atName
      let (f, first) ← holding [ov] (getMethod ov m pl)
      callWith pos f first (backTo pos (starEach (e :: es) X.env)) (backToKw pos (keywordEach [] X.env))) := by rfl) :
    PGen Z X (.Call (.Attribute o m apos) (e :: es) [] pos) (tMethG C m sp dvs ta t) := by
  refine ⟨fun pins s σ H Qy Qe I h => ?_⟩
  refine PySem.W.methodCall_KW (pl := pl) (thn (he.run pins s σ H _ I h) fun u s1 ⟨x, H1, I1, rx, a, dx, fs, ex, ea, l, q⟩ => ?_) ht
  subst ex
  obtain rfl : u = Value.ref a := rx
  refine getmeth_ok I1 ea cl hm l ?_
  refine PySem.W.callWith_K (first := [.ref a]) (h₀ := X.base) I.ok.mod.kin hm.kp (thn (ha.run pos pins s1 σ H1 _ I1 q) fun us s2 ⟨vs, H2, I2, r, q2⟩ => ⟨I2.kIn, ?_⟩) hst hpl
  exact run_gfn (us := .ref a :: us) (vs := .ref a :: vs) F hr hb hd I2 (.cons rfl r) q2
theorem pgen_meth0 {pl : Sem Bool} (he : PE X o ta) (cl : Cls X.K C) (hm : Meth X.K C m f) (F : GFnG Z X.prog X.w X.K X.mg X.base k f fd ps sp) (hr : Room (k + 1) X.A) (hb : Binds X.K fd ps ds) (hd : Vals dvs ds)
    (ht : eval (.Call (.Attribute o m apos) [] [] pos) X.env = (do
      let ov ← eval o X.env
      standAt apos.atName
      let (f, first) ← holding [ov] (getMethod ov m pl)
      callWith pos f first (backTo pos (starEach [] X.env)) (backToKw pos (keywordEach [] X.env))) := by rfl) :
    PGen Z X (.Call (.Attribute o m apos) [] [] pos) (tMethG C m sp dvs ta tNil) := by
  refine ⟨fun pins s σ H Qy Qe I h => ?_⟩
  refine PySem.W.methodCall_KW (pl := pl) (thn (he.run pins s σ H _ I h) fun u s1 ⟨x, H1, I1, rx, a, dx, fs, ex, ea, l, q⟩ => ?_) ht
  subst ex
  obtain rfl : u = Value.ref a := rx
  refine getmeth_ok I1 ea cl hm l ?_
  exact PySem.W.callWith_K0 (first := [.ref a]) I1.kIn hm.kp (run_gfn (us := [.ref a]) (vs := [.ref a]) F hr hb hd I1 (.cons rfl .nil) q)

/-! ### yield -/
def tYieldG (te : TE) : TSg := fun _ yl σ H => te σ H yl
theorem psg_yield (he : PEg Z X e te) (hco : X.env.scope.isCoroutine = false := by rfl) (hi : interactive X.env = false := by rfl) : PSg Z X (.Expr (.Yield (some e) yp) pos) (tYieldG te) := by
  refine ⟨fun c pins s dl σ H D yl I d ht => ?_⟩
  rw [exec_Expr X.env _ pos hi rfl]
  show wpG _ Z X.A (YX X yl) c (standAt pos >>= fun _ => ((eval e X.env >>= fun v => (standAt yp >>= fun _ => yieldOut X.env v)) >>= fun x => dropValue (.Yield (some e) yp) pos x)) _ _ dl s
  have hy : ∀ v, yieldOut X.env v = yieldValue v := fun v => by simp only [yieldOut, hco, Bool.false_eq_true, if_false]
  simp only [hy]
  refine wpG_bind (wpG_standAt (wpG_bind (wpG_bind (wpG_noY (wpG_thn (he.run c pins s dl σ H _ I d ht) fun u s1 dl1 ⟨v, H1, I1, d1, r, q⟩ => ?_)))))
  refine wpG_bind (wpG_standAt ?_)
  unfold yieldValue
  exact wpG_bind (wpG_yieldOut ⟨v, pins, σ, H1, I1, d1, r, q⟩)

/-! ### yield from a generator -/
theorem close_gen : ∃ v, typeLookup (.type "generator") "close" = pure (some v) := ⟨.builtin "generator.close", by rw [typeLookup_type, builtinLookup_eq_fast]; kernel_rfl⟩
def tYieldFrom (t : TGe) : TSg := fun D yl σ H => t σ H yl (D.nx σ)
theorem psg_yieldFrom {tg : TGe} (he : PGen Z X e tg) (hnx : ∀ x s, X.xe x s → False) (hi : interactive X.env = false := by rfl) : PSg Z X (.Expr (.YieldFrom e yp) pos) (tYieldFrom tg) := by
  refine ⟨fun c pins s dl σ H D yl I d ht => ?_⟩
  rw [exec_Expr X.env _ pos hi rfl]
  show wpG _ Z X.A (YX X yl) c (standAt pos >>= fun _ => ((eval e X.env >>= fun v => (standAt yp >>= fun _ => yieldFrom X.env v)) >>= fun x => dropValue (.YieldFrom e yp) pos x)) _ _ dl s
  refine wpG_bind (wpG_standAt (wpG_bind (wpG_bind (wpG_of (wpAny_mono (he.run _ s σ H _ _ (pinDd I d) ht) (fun u s' q => ?_) fun x s' z => (hnx x s' z).elim)))))
  obtain ⟨k, s1, H1, hr, hh, I1', a, g, c0, rfl, hsz, hg, hgs, os1, ba1, lim1, kp1, run⟩ := q
  obtain ⟨I1, d1⟩ := unpinDd d I1'
  refine wpG_bind (wpG_standAt ?_)
  unfold yieldFrom
  refine wpG_bind (wpG_of (wpAny_typeOf hg.typeIs ?_))
  rw [if_neg (by decide)]
  refine wpG_bind (wpG_holding (wpG_of (wpAny_pyIter_gen hg ?_)))
  have hfp : FpOk X pins H1 a := I1.fpOk hsz (I1.hok.fresh hsz)
  have after : ∀ {s3 : Shared} {H' : Hp} {h4 : Heap} {G : Array GenState}, s3.os = s1.os → AllBare G → Un (frs X.stack) [] H1 H' s1.heap s3.heap → HOk X.prog X.w H' s3.heap → H' a = none → (∀ b o, b ≠ a → s3.heap.get? b = some o → h4.get? b = some o) →
      Inv X pins σ H' { s3 with gens := G, heap := h4 } := fun {s3 H' h4 G} h1 h2 h3 h4' h5 h6 => by
    have J : Inv X pins σ H' { s3 with gens := G } := I1.call' (s' := { s3 with gens := G }) h1 h3 h4' h2 fun b z => by simp at z
    exact J.turned (t' := s3.toks) h6 h5 hfp.2.1 hfp.2.2.2.1 hfp.2.2.2.2.1 hfp.2.2.2.2.2
  refine wpG_runValueOwn (codeG_of_tree ?_)
  rw [Around.under_plainId plain_yf _, den_yf]
  unfold Builtin.«proto.yield_from»
  try dsimp only
  refine wpG_bind (wpG_pure ?_)
  try dsimp only
  refine wpG_bind (wpG_noY (wpG_attempt (wpG_holding ?_)))
  rw [if_neg Bool.false_ne_true, if_pos (show (Value.none == Value.none) = true from rfl)]
  refine wpG_bind (wpG_rule (wpG_bind (wpG_nextFresh (A := X.A.in1) hh lim1 (by have := hr.dp; show X.A.depth < _; exact Nat.lt_of_le_of_lt (by show X.A.depth ≤ X.A.depth + 3 * k + 5; omega) this) hg hgs ?_)))
  refine codeG_Y (codeG_mono (run X.A.in1.in1 dl hr I1.env0.frames d1) fun r s3 dl3 q => ?_) fun v s3 dl3 q x hx => ?_
  · -- the end
    obtain ⟨hres, H', q1, q2, q3, q4, q5, q6⟩ := q
    refine ⟨hres, fun ex h' hs hk => ?_⟩
    obtain ⟨a', oe, vs, rfl, ho, hcl, hd, h5⟩ := hs
    try dsimp only
    refine wpG_bind (wpG_of (wpAny_endsTurn ho hcl ?_))
    try dsimp only
    rw [if_pos rfl]
    first
      | refine wpG_bind (wpG_rule ?_)
      | (rw [if_neg Bool.false_ne_true]; refine wpG_bind (wpG_rule ?_))
      | (rw [if_neg Bool.false_ne_true]; refine wpG_bind (wpG_pure ?_); refine wpG_bind (wpG_rule ?_))
    refine wpG_bind (wpG_of (wpAny_field ho hd h5 ?_))
    refine wpG_pure ?_
    show wpG _ Z X.A (YX X yl) c (pure Flow.next) _ _ dl3 _
    have J : Inv X pins σ H' ({ s3.setGen g .finished with heap := h' } : Shared) := by
      have J0 : Inv X pins σ H' (s3.setGen g .finished) := I1.call' (s' := s3.setGen g .finished) q1 q3 q4 (AllBare.set q2 rfl) fun b z => by simp at z
      exact J0.kept (t' := s3.toks) hk
    exact wpG_pure ⟨σ, H', J, Dd.kept (s := s3) q6 hk, q5⟩
  · -- an item
    obtain ⟨xv, H', q1, q2, q3, q4, q5, q6, q7, q8, q9⟩ := q
    refine wpG_pure ?_
    try dsimp only
    refine wpG_bind (wpG_of (wpAny_typeOf (T := "generator") q8.typeIs ?_))
    try dsimp only
    obtain ⟨cv, hcv⟩ := close_gen
    first
      | (refine wpG_bind (wpG_of_eq hcv ?_); refine wpG_bind (wpG_pure ?_))
      | refine wpG_bind (wpG_bind (wpG_of_eq hcv (wpG_pure ?_)))
    try dsimp only
    obtain ⟨og, nm, qn, hog, hoc, hod, hos⟩ := id q8
    unfold Builtin.Generator.sleptOver
    refine wpG_bind (wpG_of (wpAny_bind (wpAny_load hog ?_)))
    rw [hoc, if_neg (by decide), hos]
    show wpAny _ _ (setSlotAt a 0 (some (rawInt (0 + 1)))) _ _ _
    unfold setSlotAt
    rw [if_neg (by show ¬ (0 ≥ sizeLine); decide)]
    first
      | refine wpAny_updatePart hog ?_
      | refine wpAny_bind (wpAny_pure (wpAny_updatePart hog ?_))
    have hst : ∀ b o, b ≠ a → (s3.setGen g x).heap.get? b = some o → ((s3.setGen g x).heap.update a (fun o => { o with slots := (o.slots ++ Array.replicate (0 + 1 - o.slots.size) none).setIfInBounds 0 (some (rawInt (0 + 1))) })).get? b = some o := fun b o hb e => (Heap.get?_update_other _ _ (Ne.symm hb)).trans e
    have hgo : ((s3.setGen g x).heap.update a (fun o => { o with slots := (o.slots ++ Array.replicate (0 + 1 - o.slots.size) none).setIfInBounds 0 (some (rawInt (0 + 1))) })).get? a = some { og with slots := (og.slots ++ Array.replicate (0 + 1 - og.slots.size) none).setIfInBounds 0 (some (rawInt (0 + 1))) } := Heap.get?_update_self _ hog (Obj.isFreed_of_fields hod)
    have hgn : Obj.genNumber? { og with slots := (og.slots ++ Array.replicate (0 + 1 - og.slots.size) none).setIfInBounds 0 (some (rawInt (0 + 1))) } = og.genNumber? := by
      simp [Obj.genNumber?]
    have hgs2 : og.genNumber?.isSome = true := by
      simp [Obj.genNumber?, hoc, hod]
    unfold suspend
    refine wpG_bind (wpG_yieldLoud ⟨_, hgo, by rw [hgn]; exact hgs2⟩ ?_)
    refine ⟨xv, pins, σ, H', after q1 (AllBare.set q2 hx) q3 q4 q9 hst, fun b hb => ?_, q5, q6⟩
    rcases List.mem_cons.mp hb with e | e
    · rw [e]; exact ⟨_, hgo, by rw [hgn]; exact hgs2, q9⟩
    · obtain ⟨o, e1, e2, e3⟩ := q7 b e
      by_cases hba : b = a
      · subst hba; exact ⟨_, hgo, by rw [hgn]; exact hgs2, q9⟩
      · exact ⟨o, hst b o hba e1, e2, e3⟩

/-! ### the first item of a for -/
def tFirst (t : TGe) (g : TG) (tb : TSg) : TSg := fun D yl σ H => t σ H (fun x H1 => g x σ H1 fun σ2 H2 => tb { D with nx := fun _ _ => False, ct := fun _ _ => False, bk := D.nx } yl σ2 H2) (D.nx σ)
theorem psg_first {x : Str} {npos : Pos} {body : List Stmt} {tg : TGe} {g : TG} {tb : TSg} (hnx : ∀ x s, X.xe x s → False) (he : PGen Z X e tg) (hg : PG X (.Name x npos) g) (hb : PSsg Z X body tb)
    (hs : ∀ x, foldedSetIterable e X.env x = pure x := by intro _; rfl) : PSg Z X (.For (.Name x npos) e body [] pos) (tFirst tg g tb) := by
  refine ⟨fun c pins s dl σ H D yl I d ht => ?_⟩
  rw [exec_For]
  refine wpG_bind (wpG_standAt (wpG_bind (wpG_of (wpAny_mono (he.run _ s σ H _ _ (pinDd I d) ht) (fun u s' q => ?_) fun x s' z => (hnx x s' z).elim))))
  obtain ⟨k, s1, H1, hr, hh, I1', a, gn, c0, rfl, hsz, hgg, hgs, os1, ba1, lim1, kp1, grun⟩ := q
  obtain ⟨I1, d1⟩ := unpinDd d I1'
  refine wpG_bind (wpG_of_eq (hs _) (wpG_bind (wpG_standAt (wpG_bind (wpG_holding (wpG_of (wpAny_pyIter_gen hgg ?_)))))))
  have loop : codeG (model X.prog X.w) Z X.A (YX X yl) (.forLoop (.Name x npos) (.ref a) body [] X.env) (fun r s' dl' => match r with | .ok f => SPg X pins D f s' dl' | .error _ => False) dl s' := by
    refine codeG_of_tree ?_
    rw [Around.under_of_weight rfl]
    show wpG _ Z X.A _ _ ((forTurn (.Name x npos) (.ref a) body [] X.env).onRaise fun x => do noteFrame x X.env; theTreesLotGoes x) _ _ dl s'
    refine wpG_onRaise (wpG_mono (E := XEg X) ?_ (fun _ _ _ q => q) fun x s' _ q => (hnx x s' q).elim)
    unfold forTurn
    have hroom : X.A.depth < recursionLimit := Nat.lt_of_le_of_lt (by show X.A.depth ≤ X.A.depth + 3 * k + 5; omega) hr.dp
    refine wpG_bind (wpG_standAt (wpG_bind (wpG_onRaise (wpG_noY (wpG_mono (E := fun _ _ _ => False) (wpG_pyNextFresh hh lim1 hroom hgg hgs ?_) (fun _ _ _ q => q) fun _ _ _ q => q.elim)))))
    have hr1 : Room k X.A.in1 := ⟨hr.hd, hr.dp, Nat.lt_of_le_of_lt (by show X.A.units + 1 + 16 * k + 200 ≤ X.A.units + 1 + 1 + 16 * k + 200; omega) hr.un⟩
    refine codeG_Y (codeG_mono (grun X.A.in1 dl hr1 I1.env0.frames d1) fun r s3 dl3 q => ?_) fun v s3 dl3 q gx hx => ?_
    · obtain ⟨hres, H', q1, q2, q3, q4, q5, q6⟩ := q
      refine ⟨hres, fun h' hk => ?_⟩
      have J : Inv X pins σ H' ({ s3.setGen gn .finished with heap := h' } : Shared) := by
        have J0 : Inv X pins σ H' (s3.setGen gn .finished) := I1.call' (s' := s3.setGen gn .finished) q1 q3 q4 (AllBare.set q2 rfl) fun b z => by simp at z
        exact J0.kept (t' := s3.toks) hk
      have dd : Dd H' ({ s3.setGen gn .finished with heap := h' } : Shared) dl3 := Dd.kept (s := s3) q6 hk
      refine wpG_pure ⟨rfl, codeG_of_tree ?_⟩
      rw [Around.under_of_weight rfl]
      show wpG _ Z X.A _ _ ((execs [] X.env).onRaise (fun x => do noteFrame x X.env; theTreesLotGoes x) >>= fun f => pure (PySem.Fin.done f)) _ _ dl3 _
      exact wpG_bind (wpG_of (wpAny_onRaise (wpAny_execs_nil (wpG_pure ⟨σ, H', J, dd, q5⟩))))
    · obtain ⟨xv, H', q1, q2, q3, q4, q5, q6, q7, q8, q9⟩ := q
      have J : Inv X pins σ H' (s3.setGen gn gx) := I1.call' (s' := s3.setGen gn gx) q1 q3 q4 (AllBare.set q2 hx) fun b z => by simp at z
      have dd : Dd H' (s3.setGen gn gx) dl3 := q7
      refine wpG_bind (wpG_of (wpAny_pure ?_))
      refine wpG_bind (wpG_of (wpAny_mono (hg.run _ _ σ H' xv v _ (pinDd J dd) q5 q6) (fun _ s6 ⟨σ6, H6, I6', q6⟩ => ?_) fun x s' z => (hnx x s' z).elim))
      obtain ⟨I6, d6⟩ := unpinDd dd I6'
      refine wpG_bind (wpG_thn (hb.run _ pins s6 dl3 σ6 H6 _ yl I6 d6 q6) fun f s7 dl7 q7 => ?_)
      cases f with
      | next => obtain ⟨_, _, _, _, z⟩ := q7; exact z.elim
      | cont => obtain ⟨_, _, _, _, z⟩ := q7; exact z.elim
      | brk => obtain ⟨σ7, H7, I7, d7, q7⟩ := q7; exact wpG_pure ⟨σ7, H7, I7, d7, q7⟩
      | ret v => obtain ⟨x7, σ7, H7, I7, d7, r7, q7⟩ := q7; exact wpG_pure ⟨x7, σ7, H7, I7, d7, r7, q7⟩
  unfold runOwn run
  refine wpG_onRaise (wpG_callOwn (codeG_mono loop fun r s' dl' q => ?_))
  cases r with
  | ok f => exact wpG_pure q
  | error x => exact q.elim
end
end GG
/-! G10: the end of a law whose call runs over the ghost. -/
namespace GG
open PySem
open PySem.W
open PySem.Calls
open PySem.Spec
open PyProof.Rows

theorem callFromGo {c : ClaimW} {tree : List Value → Sem PySem.Fin} {w : World} {s : Shared} {free : Addr → Prop} {gens : Prop} {kept : Heap → Prop} (slp : s.asleep) (noG : s.gens = #[])
    (spec : ∀ args, c.pre args = true → WData.layableAll args = true → ∀ ord : List DictEntry → List DictEntry, (∀ l, (ord l).Perm l) →
      ∃ vs s1, layAllW c.records (classAt s.heap) w.params ord args s = some (vs, s1) ∧
        wpG (model c.prog w) (fun r s' => c.Ends s args vs s1 r s' ∧ s'.os = s.os ∧ kept s'.heap) callerA NoY (.builtin "claim.caller" {}) (tree vs)
          (fun fin s' dl => ∃ f, fin = .done f ∧ AllBare s'.gens ∧ (∀ it ∈ dl, GenAtO s'.heap it) ∧ c.Ends s args vs s1 (.ok f) s' ∧ s'.os = s.os ∧ kept s'.heap) (fun _ _ _ => False) [] s1) :
    c.CallFrom (fun vs => ⟨tree vs, .builtin "claim.caller" {}, default, []⟩) w free gens kept s := by
  intro args h1 h2 ord h3
  obtain ⟨vs, s1, hl, hw⟩ := spec args h1 h2 ord h3
  have rest := layAllW_rest _ _ _ hl
  have go := hw Sem.pure Sem.raise id id [] caller_in (.inr fun _ _ _ z => z) .none (fun fin p s' dl q => by
    obtain ⟨f, rfl, q1, q2, q3⟩ := q
    exact Go.fin (r := .ok f) q1 q2 q3) (fun _ _ _ _ z => z.elim) default
  rw [wrap_id] at go
  obtain ⟨n, r, s', s'', e1, e2, e3, e4, e5, e6, e7⟩ := go.sound s1 s1 _ (Shared.asleep_of_life rest.2.2.2 slp) rfl (R2.refl s1) rfl
  have ends := e5.congr e2
  refine ⟨vs, s1, hl, n, _, s'', e1, ?_, (fun _ i x hx => by rw [noG] at hx; simp at hx), by rw [e2]; exact e7, by rw [e2, e4, rest.2.2.2], Shared.rest_eq (e3.trans e6)⟩
  rcases ends with ⟨v, rfl, a1, a2, a3, a4, a5⟩ | ⟨e, ob, cls, rfl, a1, a2, a3, a4, a5⟩
  · exact .inl ⟨v, rfl, a1, a2, a3, fun b o y _ => a4 b o y, a5⟩
  · exact .inr ⟨e, ob, cls, rfl, a1, a2, a3, a4, fun b o y _ => a5 b o y⟩

/-- the walk over the ghost -/
abbrev WalkGo (q : Program) (loose : List Str) (XP : (Str → Option Value) → Heap → Prop) (YP : World → Heap → Prop) (r : RowW) (d : DefRec) (kwd : List (Str × PySem.Expr)) : Prop :=
  ∀ (Z : Result → Shared → Prop) (w : World) (s0 s1 : Shared) (mg mb : Str → Option Value), Ground q loose r.records XP w s0 mg mb s1.heap → YP w s1.heap → ∀ (fa : Addr) (ob : Obj) (pm cd doc dV kV : Value), s1.heap.get? fa = some ob →
    ob.data = .func { docDef d.name d.params d.body d.scope pm cd doc with defaults := dV, kwdefaults := kV } → s1.heap.CodeRec cd d.name → Dflts mg s1.heap d.params kwd dV kV → mg d.name = some (.ref fa) → s1.gens = #[] →
    ∀ (args : List WData) (vals : List Value) (as : List Addr), r.claim.pre args = true → WData.layableAll args = true → ReadsAllW r.records (classAt s0.heap) s1.heap vals args as → WellAll w.params s1.heap vals args → (∀ a ∈ as, (a == sysModules) = false) →
      wpG (model r.prog w) Z callerA NoY (.builtin "claim.caller" {}) (PySem.call (.ref fa) vals) (fun v s' dl => GoodWG r.claim (classAt s0.heap) (ExcName.means s0.heap) args s1 (.ok (.ret v)) s' ∧ ∀ it ∈ dl, GenAtO s'.heap it) (fun _ _ _ => False) [] s1

theorem holdsGo {r : OpenRow} {q : Program} {loose : List Str} {Xt : Shared → Bool} {XP : (Str → Option Value) → Heap → Prop} {α : Type} {Yf : Shared → α} {Ya : World → α} {YP : World → Heap → Prop} {d : DefRec} {kwd : List (Str × PySem.Expr)} {N : Nat}
    (left : LeftO r.prog q loose Xt Yf Ya N) (hY : ∀ w s, Yf s = Ya w → YP w s.heap) (hYk : ∀ w h h', YP w h → (∀ b o, h.get? b = some o → h'.get? b = some o) → YP w h')
    (hX : ∀ s, Xt s = true → XP (s.heap.nsMap mainGlobals) s.heap) (hXk : ∀ mg h h', XP mg h → (∀ b o, h.get? b = some o → h'.get? b = some o) → XP mg h')
    (hdef : defOf q r.name = some (d, kwd)) (hp : r.prog.theDef r.name = some (d.params, d.body, d.scope)) (hk : kwWritten? d.params.kwonlyargs d.params.kw_defaults = some kwd) (hRf : ∀ s, Xt s = true → RecFacts r.records s.heap) (hwr : (!r.writes || r.records.isEmpty) = true)
    (k1 : r.wellSaid = true) (ok : (chainsOk q && opensWell r.prog && (frees r.toRowW && r.within.isEmpty)) = true) (hb : r.prog.bare) (hw : r.toRowW.promised)
    (call : WalkGo q loose XP YP r.toRowW d kwd) : r.Holds := by
  obtain ⟨okA, k5⟩ := Bool.and_eq_true_iff.mp ok
  obtain ⟨hch, o1⟩ := Bool.and_eq_true_iff.mp okA
  obtain ⟨k5, k6⟩ := Bool.and_eq_true_iff.mp k5
  obtain ⟨hsame, hu, hia, hap, hm⟩ := frees_parts k5
  refine ⟨k1, hw, ⟨hb, o1, by show r.toRowW.makers.map _ = []; rw [hm]; rfl⟩, hw.witness, fun w => ⟨(left.behind hX hch w).1, fun sE hsE => ?_⟩⟩
  obtain ⟨sA, f1, g1, sB, ran, slp, gz, nsB, GB, yB⟩ := (left.behind (XP := fun mg h => XP mg h ∧ RecFacts r.records h) (fun s hs => ⟨hX s hs, hRf s hs⟩) hch w).2 sE hsE
  have G0 : Ground q loose [] XP w sB (sB.heap.nsMap mainGlobals) (sB.heap.nsMap builtinsNs) sB.heap := ⟨GB.T, GB.B, GB.D, GB.TE, GB.TD, GB.W, GB.X.1, GB.cls, GB.has, GB.apart, GB.once, GB.K⟩
  have RF := GB.X.2
  refine ⟨sA, f1, g1, sB, ran, fun n hn => ?_, RF.1, RF.2.1, ?_⟩
  · obtain rfl : n = r.name := by split at hn <;> simp_all
    exact pinned_of_view nsB G0 hdef hp hk
  have noG : sB.gens = #[] := Array.eq_empty_of_size_eq_zero (beq_iff_eq.mp gz)
  have G : Ground q loose r.records XP w sB _ _ sB.heap := RF.ground G0
  refine callFromGo (c := r.toRowW.claim) (tree := fun vs => do match ← nsGet mainNs r.name with
      | some f => do ret (← PySem.call f vs)
      | none => unsupported "claim.caller:no-such-global") slp noG fun args hpre hlay ord hord => ?_
  obtain ⟨⟨vs, s1⟩, hlaid⟩ := Option.isSome_iff_exists.mp (layAllW_isSome (P := w.params) (ord := ord) G.has args r.args sB (pre_splitW hpre).1)
  have kp := layAllW_keeps _ _ _ hlaid
  have hal := layAllW_rest _ _ _ hlaid
  obtain ⟨as, hrd, hin, hold⟩ := reads_layAllW hord _ _ _ hlaid hlay s1.heap (fun _ _ e => e)
  have L : Laid r.records w sB s1 args vs as := ⟨⟨ord, hord, hlaid⟩, hrd, hin, hold, kp, hal.1.trans noG, hal.2.2.1⟩
  have G1 := G.keeps hXk kp
  obtain ⟨fa, ob, pm, cd, doc, dV, kV, b1, b2, b3, b4, b5⟩ := G1.fn hdef
  have hi := ident_freeW hu hia hap
  have hwi : r.toRowW.claim.within = [] := List.isEmpty_iff.mp k6
  have H := fun Z => call Z w sB s1 _ _ G1 (hYk _ _ _ (hY w sB yB) kp) fa ob pm cd doc dV kV b2 b3 b4 b5 (defOf_name hdef ▸ b1) L.gens args vs as hpre hlay L.reads L.well (L.low G.low)
  refine ⟨vs, s1, hlaid, wpG_bind (wpG_of (wpAny_nsGet G1.T.g ?_))⟩
  rw [b1]
  refine wpG_bind (wpG_mono (H _) (fun v s' dl hz => ?_) fun _ _ _ z => z.elim)
  obtain ⟨g, hd⟩ := hz
  have z := g.laid (c := r.toRowW.claim) hsame hwi hi L
  exact wpG_pure ⟨_, rfl, z.2.2, hd, z.1, z.2.1, fun wr => ⟨namesKept_of ran nsB _ kp g.2.1.old, noTable hwr wr⟩⟩

/-- the head by one run of the kernel, the walk over the ghost -/
theorem headGo {r : OpenRow} {q : Program} {H : Hook} {ob : SharedT → H.α} {M : Nat} {loose : List Str} {d : DefRec} {kwd : List (Str × PySem.Expr)} (ho : ∀ s : SharedT, ob s = H.obs s.abs)
    (e : opening r.prog = plainProg r.prog.main.scope.names) (f : ∀ s, fenceModules? r.prog s = some s) (run : ∀ w, HandSHeadRun.RunEq r q H ob M loose w)
    (hdef : defOf q r.name = some (d, kwd)) (hp : r.prog.theDef r.name = some (d.params, d.body, d.scope)) (hk : kwWritten? d.params.kwonlyargs d.params.kw_defaults = some kwd)
    (hwr : (!r.writes || r.records.isEmpty) = true) (k1 : r.wellSaid = true) (ok : (chainsOk q && opensWell r.prog && (frees r.toRowW && r.within.isEmpty)) = true) (hb : r.prog.bare) (hw : r.toRowW.promised)
    (call : WalkGo q loose (XL q []) H.says r.toRowW d kwd) : r.Holds := by
  have left : LeftO r.prog q loose (fun s => xlAt q [] s && recOk r.toRowW.records s) H.obs H.val (M + 600) true := HandSHeadRun.left_one (M := M) e (Nat.ble_eq_true_of_le (by omega)) f (Nat.ble_eq_true_of_le (by omega)) fun w os => by
    have zz := run w os
    rw [show ob = fun s => H.obs s.abs from funext ho] at zz
    simp only [HandSHeadRun.endQ_eq, HandSHeadRun.seenQ_eq]
    exact zz
  exact holdsGo (loose := loose) left H.of H.keeps (fun s z => xl_of s (Bool.and_eq_true_iff.mp z).1) XL.keeps hdef hp hk (fun s z => recFacts_of (Bool.and_eq_true_iff.mp z).2) hwr k1 ok hb hw call

end GG
/-! G11: the law's call over the ghost from the promise of its def. -/
namespace GG
open PySem
open PySem.Spec
open PyProof.Rows
open L2

theorem lawCallG {Z : Result → Shared → Prop} {P : Program} {w : World} {K : PySem.W.Frag} {mg mb : Str → Option Value} {k : Nat} {fa a : Addr} {fd : FuncData} {x : Str} {sp : Sp} {s1 : Shared} {us : List Value} {ns : List Int}
    (kin : K.In s1.heap) (gns : s1.heap.Ns mainGlobals mg) (bns : s1.heap.Ns builtinsNs mb) (bok : ∀ x : Str, x ≠ "__name__" → mb x = bootBuiltins x) (lim : s1.heap.NoLimit) (noG : s1.gens = #[])
    (at_ : s1.heap.get? a = some { cls := .type "list", data := .seq us.toArray }) (whole : IntsAre us ns) (small : ns.length ≤ sizeLine) (room : Room k callerA)
    (F : ∀ base : Heap, K.In base → base.Ns mainGlobals mg → FnG Z P w K mg base k fa fd [x] sp) (bind : ∀ (s : Shared) (u : Value), BindsTo s fd ⟨[u], []⟩ [(x, u)])
    (says : ∀ H : Hp, Only H → SqL K H a (ns.map V.int) → sp [.ref a] H (fun v _ => v = .bl true) E0) :
    codeG (model P w) Z callerA NoY (.call (.ref fa) ⟨[.ref a], []⟩) (fun r s' dl => r = .ok (.ret (.bool true)) ∧ OldK s1.heap s'.heap ∧ s'.os = s1.os ∧ AllBare s'.gens ∧ ∀ it ∈ dl, GenAtO s'.heap it) [] s1 := by
  have rv := vals_ints whole
  have lenU := whole.length
  have core : ∀ H : Hp, Only H → SqL K H a (ns.map V.int) → HOk P w H s1.heap → (∀ b, H b ≠ none → b = a) → (H a ≠ none → K.lookup a = none) → codeG (model P w) Z callerA NoY (.call (.ref fa) ⟨[.ref a], []⟩) (fun r s' dl => r = .ok (.ret (.bool true)) ∧ OldK s1.heap s'.heap ∧ s'.os = s1.os ∧ AllBare s'.gens ∧ ∀ it ∈ dl, GenAtO s'.heap it) [] s1 := by
    intro H only seq ok only_a not_a
    have part : ∀ {b : Addr} {o : Obj}, s1.heap.get? b = some o → H b = none → (hidT s1.heap H).get? b = some o := fun e n => hidT_get e n
    have dictFree : ∀ {b : Addr} {o : Obj} {es : Array DictEntry} {ep : Nat}, s1.heap.get? b = some o → o.data = .dict es ep → H b = none := fun {b o es ep} e d => by
      cases hb : H b with
      | none => rfl
      | some u =>
        obtain rfl : b = a := only_a b (by rw [hb]; simp)
        rw [at_] at e; cases e
        have d' : Data.seq us.toArray _ = Data.dict es ep := d
        cases d'
    have nsPart : ∀ {b : Addr} {m : Str → Option Value}, s1.heap.Ns b m → (hidT s1.heap H).Ns b m := fun {b m} ⟨o, es, ep, e, d, rr⟩ => ⟨o, es, ep, part e (dictFree e d), d, rr⟩
    have kPart : K.In (hidT s1.heap H) := fun b o e => part (kin b o e) (by
      cases hb : H b with
      | none => rfl
      | some u =>
        obtain rfl : b = a := only_a b (by rw [hb]; simp)
        rw [not_a (by rw [hb]; simp)] at e; cases e)
    have mod : Mod K mg (hidT s1.heap H) := ⟨kPart, nsPart gns, ⟨mb, nsPart bns, bok⟩, let ⟨mc, h1, h2⟩ := lim; ⟨mc, nsPart h1, h2⟩⟩
    have env : Env0 P w K mg (hidT s1.heap H) callerA [] s1 H := ⟨rfl, mod, fun b o e => of_hidT e, Nat.le_of_eq (hidT_size _ _), trivial, fun b hb => absurd (show b ∈ ([] : List Addr) from hb) (by simp), ok, .of_eq noG⟩
    refine codeG_mono ((F _ kPart (nsPart gns)).run callerA [] s1 [] H ⟨[.ref a], []⟩ [.ref a] [.ref a] _ room env Dd.nil (bind s1 (.ref a)) (.cons rfl .nil) (says H only seq)) fun r s' dl hr => ?_
    cases r with
    | error e => exact hr.elim
    | ok fl =>
      cases fl with
      | next => exact hr.elim
      | brk => exact hr.elim
      | cont => exact hr.elim
      | ret u =>
        obtain ⟨v, H', hos, hba, hun, hok', hrel, hv, hdd⟩ := hr
        have hv' : v = .bl true := hv
        subst hv'
        obtain rfl : u = Value.bool true := hrel
        refine ⟨rfl, OldK.of_keep fun b o e => ?_, hos, hba, hdd.gen⟩
        cases hb : H b with
        | none => exact hun.keep b o e hb (fun z => absurd (show b ∈ ([] : List Addr) from z) (by simp)) (by simp)
        | some u =>
          rcases only b with z | ⟨ob, xs, z⟩
          · rw [hb] at z; cases z
          · have z2 := hun.frzs b ob _ z
            obtain ⟨e1, _⟩ := ok b _ z
            obtain ⟨e2, _⟩ := hok' b _ z2
            rw [e] at e1; cases e1
            exact e2
  cases hk : K.lookup a with
  | some o =>
    have e := kin a o hk
    rw [at_] at e
    cases e
    exact core (fun _ => none) (fun _ => .inl rfl) (.inr ⟨_, us.toArray, _, hk, rfl, rfl, rfl, by rw [List.size_toArray, lenU]; exact small, by simpa using rv⟩) (fun b u z => by have z' : (none : Option HO) = some u := z; cases z') (fun b z => absurd rfl z) fun z => absurd rfl z
  | none =>
    refine core (fun b => if b = a then some (.frz { cls := .type "list", data := .seq us.toArray } (.lst (ns.map V.int))) else none) (fun b => ?_) (.inl (.inr ⟨{ cls := .type "list", data := .seq us.toArray }, if_pos rfl⟩)) (fun b u z => ?_) (fun b z => ?_) fun _ => hk
    · by_cases hb : b = a
      · exact .inr ⟨_, _, if_pos hb⟩
      · exact .inl (if_neg hb)
    · by_cases hb : b = a
      · have z' := (if_pos hb).symm.trans z
        cases z'
        subst hb
        exact ⟨at_, by rw [List.length_map]; exact small, us, _, rv, at_⟩
      · have z' := (if_neg hb).symm.trans z
        cases z'
    · by_cases hb : b = a
      · exact hb
      · exact absurd (if_neg hb) z

theorem walkGo {l : PySem.W.OpenLaw} {n k : Nat} {q : Program} {loose : List Str} {XP : (Str → Option Value) → Heap → Prop} {YP : World → Heap → Prop} {d : DefRec} {x : Str}
    (most : l.most = some n) (n_small : n ≤ sizeLine) (noDef : d.params.defaults = []) (room : Room k callerA)
    (F : ∀ (Z : Result → Shared → Prop) (w : World) (mg : Str → Option Value) (fa : Addr) (h : Heap), YP w h → h.Ns mainGlobals mg → mg d.name = some (.ref fa) →
      ∃ (K : PySem.W.Frag) (fd : FuncData) (sp : Sp), K.In h ∧ (∀ (s : Shared) (u : Value), BindsTo s fd ⟨[u], []⟩ [(x, u)]) ∧
        (∀ (H : Hp) (a : Addr) (ns : List Int), ns.length ≤ n → Only H → SqL K H a (ns.map V.int) → sp [.ref a] H (fun v _ => v = .bl true) E0) ∧
        ∀ base : Heap, K.In base → base.Ns mainGlobals mg → FnG Z l.prog w K mg base k fa fd [x] sp) :
    WalkGo q loose XP YP l.row.toRowW d [] := by
  intro Z w s0 s1 mg mb G Y fa ob pm cd doc dV kV h1 h2 h3 h4 h5 h6 args vals as h7 h8 h9 h10 h11
  obtain rfl : dV = .none := PySem.W.Dflts.none h4 noDef
  obtain rfl : kV = .none := PySem.W.Dflts.noKw h4
  obtain ⟨a, us, ns, rfl, rfl, obj, whole, hlen⟩ := Att.script_of most h7 h10
  obtain ⟨K, fd, sp, kin, bind, says, run⟩ := F Z w mg fa _ Y G.T.g h5
  refine wpG_call (codeG_mono (lawCallG kin G.T.g G.T.b G.T.builtins G.T.nolimit h6 obj whole (Nat.le_trans hlen n_small) room run bind fun H h hs => says H a ns hlen h hs) fun r s' dl q => ?_)
  obtain ⟨rfl, q1, q2, q3, q4⟩ := q
  exact ⟨⟨.inl ⟨.bool true, .bool true, [], rfl, fun _ => rfl, .bool true, Att.post_true l _, fun _ => ⟨List.Pairwise.nil, fun _ hm => (nomatch hm)⟩⟩, q1, q2, q3⟩, q4⟩
end GG
/-! HD: the head: what the top leaves, by names. -/
namespace GG
open PySem
open PySem.Spec
open PyProof.Rows
open L2
abbrev PW : Program := PySem.Challenge.pw_lanerules_k57_whole_bounds_and_days
abbrev RLaw : PySem.W.OpenLaw := PySem.Challenge.rw_lanerules_k57_whole_bounds_and_days
def topSt (i : Nat) : Stmt := PW.main.body.getD i (.Pass ⟨0, 0, 0, 0⟩)
def inCls (j : Nat) : Stmt → Stmt
  | .ClassDef _ _ _ body _ _ _ _ _ _ _ => body.getD j (.Pass ⟨0, 0, 0, 0⟩)
  | s => s
def dTop (x : Str) (i : Nat) : He.DefD := ⟨(x, none), x, x, defArgs (topSt i), defBody (topSt i), defScope (topSt i), [], []⟩
def dMet (x q : Str) (j : Nat) : He.DefD := ⟨("Arrows", some x), x, q, defArgs (inCls j (topSt 30)), defBody (inCls j (topSt 30)), defScope (inCls j (topSt 30)), [], []⟩
def hdFn : List He.DefD := [dTop "is_integer" 12, dTop "is_preference" 13, dTop "is_lane" 14, dTop "check_preference" 15, dTop "ranks_rule" 16, dTop "polite_rule" 17, dTop "turns_rule" 18, dTop "preference_after" 19, dTop "first_lane" 20, dTop "word_error" 21, dTop "first_car" 22, dTop "steps_of" 23, dTop "check_word" 24, dTop "check_lane" 26, dTop "check_last" 27, dTop "spot_of" 28, dTop "lanes_ahead" 29, dTop "bound_of" 31, dTop "lane_bounds" 32, dTop "starving" 33, dTop "favoured" 34, dTop "waits" 35, dTop "passed_over" 36, dTop "long_run" 37, dTop "worst_day" 38, dTop "_law_loom" 40, dTop "_law_weave" 41, dTop "_law_mixed" 42, dTop "_law_rule" 43, dTop "_law_row" 44, dTop "_law_word" 45, dTop "_law_days_right" 46, dTop "_law_favoured_right" 47, dTop "_law_ranked" 48, dTop "_law_named_right" 49, dTop "law" 50] ++ [dMet "__init__" "Arrows.__init__" 0, dMet "rings" "Arrows.rings" 1, dMet "each_ring" "Arrows.each_ring" 2, dMet "first_ring" "Arrows.first_ring" 3, dMet "longest_from" "Arrows.longest_from" 4, dMet "all_longest" "Arrows.all_longest" 5]
def faA : List He.Fa := [.glo "is_integer", .glo "is_preference", .glo "is_lane", .glo "check_preference", .glo "ranks_rule", .glo "polite_rule", .glo "turns_rule", .glo "preference_after", .glo "first_lane", .glo "word_error", .glo "first_car", .glo "steps_of", .glo "check_word", .glo "check_lane", .glo "check_last", .glo "spot_of", .glo "lanes_ahead", .glo "bound_of", .glo "lane_bounds", .glo "starving"]
def faB : List He.Fa := [.glo "favoured", .glo "waits", .glo "passed_over", .glo "long_run", .glo "worst_day", .glo "_law_loom", .glo "_law_weave", .glo "_law_mixed", .glo "_law_rule", .glo "_law_row", .glo "_law_word", .glo "_law_days_right", .glo "_law_favoured_right", .glo "_law_ranked", .glo "_law_named_right", .glo "law", .glo "Arrows"]
def faC : List He.Fa := [.free "isinstance", .free "int", .free "bool", .free "tuple", .free "len", .free "all", .free "set", .free "range", .free "str", .free "enumerate", .free "sorted", .free "max", .free "min", .free "list"]
def faD : List He.Fa := [.int "MAX_LANES" 6, .int "MAX_CARS" 40, .str "ARRIVAL" "a", .str "PASSING" "p", .cls "Arrows", .mkr "Arrows", .meth "Arrows" "rings", .meth "Arrows" "each_ring", .meth "Arrows" "first_ring", .meth "Arrows" "longest_from", .meth "Arrows" "all_longest", .noat "Arrows" "lane", .noat "Arrows" "rows"]
def hdFa : List He.Fa := faA ++ (faB ++ (faC ++ faD))
def loA : List Str := ["MAX_LANES", "MAX_CARS", "PassError", "NoPreference", "NoLane", "BadWord", "NoCount", "Empty", "ARRIVAL", "PASSING", "Arrows", "is_integer", "is_preference", "is_lane", "check_preference", "ranks_rule", "polite_rule", "turns_rule", "preference_after", "first_lane", "word_error", "first_car", "steps_of", "check_word", "check_lane"]
def loB : List Str := ["check_last", "spot_of", "lanes_ahead", "bound_of", "lane_bounds", "starving", "favoured", "waits", "passed_over", "long_run", "worst_day", "_law_loom", "_law_weave", "_law_mixed", "_law_rule", "_law_row", "_law_word", "_law_days_right", "_law_favoured_right", "_law_ranked", "_law_named_right"]
def loose : List Str := loA ++ loB
abbrev hdR : PySem.W.OpenRow := PySem.W.OpenLaw.row RLaw
abbrev hdHook : PySem.W.Hook := He.hookD 5 hdFa hdFn
def hdOb (s : PySem.W.SharedT) : He.AlD := He.obsDG 5 hdFa hdFn (HandSHeadRun.getT s)
theorem hdOb_eq (s : PySem.W.SharedT) : hdOb s = hdHook.obs s.abs := He.obsDG_eq (HandSHeadRun.getT_eq s)
abbrev hdQ : Program := PySem.W.view hdR.prog [50]
theorem hdRun (w : World) : HandSHeadRun.RunEq hdR hdQ hdHook hdOb 4000 loose w := by
  intro os
  kernel_rfl
end GG
/-! R1: rules that the hand layer lacks: t.index(n), sorted(t), t * k, s * k, len(set(t)), xs[i] op= e, enumerate of a tuple and of a text. -/
namespace RR
open PySem
open PySem.Spec
open PyProof.Rows
open L2

section
variable {prog : Program} {w : World} {A : Around} {E : Value → Shared → Prop} {s : Shared}
/-- what a tuple holds, the heap grown by a list -/
theorem collect_tup {it : Addr} {ob : Obj} {arr : Array Value} {ep : Nat} {Q : List Value → Shared → Prop} (h1 : s.heap.get? it = some ob) (h2 : ob.cls = .type "tuple") (h3 : ob.data = .seq arr ep) (h4 : arr.size ≤ sizeLine)
    (hQ : ∀ g : Heap, (∀ b u, s.heap.get? b = some u → g.get? b = some u) → s.heap.objs.size ≤ g.objs.size → Q arr.toList { s with heap := g }) : wpAny (model prog w) A (collect (.ref it)) Q E s := by
  unfold collect
  generalize hL : ({ cls := .type "list", data := .seq ([] : List Value).toArray } : Obj) = L
  have new : (s.heap.push L).get? s.heap.objs.size = some { cls := .type "list", data := .seq #[] 0 } := by subst hL; exact Heap.get?_push_size _ rfl
  generalize hg : (s.heap.push L).update s.heap.objs.size (Obj.mapSeq (· ++ arr)) = g
  have at_ := Heap.get?_update_self (Obj.mapSeq (· ++ arr)) new rfl
  rw [hg] at at_
  have keep : ∀ b u, s.heap.get? b = some u → g.get? b = some u := fun b u e => by
    rw [← hg]
    exact (Heap.get?_update_other _ _ (Nat.ne_of_gt (Heap.lt_size e))).trans (Heap.get?_push_of_some _ e)
  have size : s.heap.objs.size ≤ g.objs.size := by
    rw [← hg, Heap.size_update, Heap.size_push]; exact Nat.le_succ _
  have last : wpAny (model prog w) A (do
        match (← load s.heap.objs.size).data with
          | Data.seq xs _ => pure xs.toList
          | _ => unsupported "internal:collect") Q E { s with heap := g } := by
    refine wpAny_bind (wpAny_load at_ (wpAny_pure ?_))
    have e : ((#[] : Array Value) ++ arr).toList = arr.toList := by simp
    show Q ((#[] : Array Value) ++ arr).toList _
    rw [e]
    exact hQ g keep size
  refine wpAny_bind (wpAny_runValue (codeAny_builtin F.entry_proto_collect ?_))
  rw [Around.under_plainId F.plain_proto_collect _]
  refine wpAny_bind (m := newList []) (wpAny_newObj_type (wpAny_pure ⟨plainId_quiet F.plain_list_iadd _, codeAny_builtin F.entry_list_iadd ?_⟩))
  rw [Around.under_plainId F.plain_list_iadd _, hL]
  refine wpAny_mono (wpAny_extend_seq (hsz := h4) (A := A) (R := fun r s' => r = .ok (.ret (.ref s.heap.objs.size)) ∧ s' = { s with heap := g }) (s := { s with heap := s.heap.push L }) _ it _ 0 (.inr rfl) new (Heap.get?_push_of_some _ h1) h2 h3 ⟨rfl, by rw [← hg]⟩)
    (fun fin s' h => ?_) fun e s' h => absurd h.1 (by simp)
  cases fin with
  | done f =>
    obtain ⟨e, rfl⟩ := h
    cases e
    exact last
  | again c' =>
    refine ⟨h.1, codeAny_mono h.2 fun r s'' hr => ?_⟩
    obtain ⟨rfl, rfl⟩ := hr
    exact last
end
section
variable {X : Cx}
/-! ### tuple.index of whole numbers -/
def rTIdx (K : PySem.W.Frag) : V → List V → Hp → VK → Prop := fun x xs H Q => ∃ (p : Addr) (ns : List Int) (z : Int) (j : Nat), x = .ref p ∧ xs = [.int z] ∧ SqT K H p (ns.map V.int) ∧ ns[j]? = some z ∧ (∀ m, m < j → ns[m]? ≠ some z) ∧ Q (.int (j : Nat)) H
theorem mt_tidx : MtR X "tuple.index" (rTIdx X.K) := by
  intro pins s σ H x xs v us Q I rx rs h
  obtain ⟨p, ns, z, j, rfl, rfl, hq, hy, hno, q⟩ := h
  cases rx
  obtain ⟨u, rfl, ru⟩ := rs.one
  obtain ⟨t, rfl⟩ := ru
  obtain ⟨its, r, pl, hz⟩ := I.tuple hq
  obtain ⟨⟨cls, dd, dt, sl⟩, ho, hc, n, hd⟩ := pl
  simp only at hc hd
  subst hc
  subst hd
  have whole := ints_of_vals r
  have hl : its.toArray.size = ns.length := by rw [List.size_toArray, ← r.length, List.length_map]
  have hj : j < its.toArray.size := by rw [hl]; exact (List.getElem?_eq_some_iff.mp hy).1
  have look : ∀ (m : Nat) (hm : m < its.toArray.size) (k : Int), ns[m]? = some k → eqk z its.toArray[m] = (k == z) := fun m hm k hk => by
    obtain ⟨tk, e⟩ := whole.get m k hk
    obtain ⟨h1, h2⟩ := List.getElem?_eq_some_iff.mp e
    have e1 : its.toArray[m] = .int k tk := by simpa using h2
    rw [e1] <;> rfl
  refine call_meets PySem.F.slot_tuple_index ⟨_, ho, rfl⟩ PySem.F.entry_tuple_index (PySem.F.args_tuple_index_2 _ _) (TI.tuple_indexAt p its.toArray n dd sl (.int z t) (eqk z) j hj ?_ ?_)
    ⟨ho, fun w hw => (eqk_gives whole w (by simpa using hw)).at _ _, ⟨.int (j : Nat), H, I.tok _, ⟨_, rfl⟩, q⟩⟩
  · rw [look j hj z hy]; exact beq_self_eq_true z
  · intro m hm hmj
    have hmn : m < ns.length := by rw [← hl]; exact hm
    rw [look m hm ns[m] (List.getElem?_eq_getElem hmn)]
    exact beq_eq_false_iff_ne.mpr fun e2 => hno m hmj (by rw [List.getElem?_eq_getElem hmn, e2])

/-! ### sorted of a tuple of whole numbers -/
def rSrtT (K : PySem.W.Frag) : List V → Hp → VK → Prop := fun vs H Q => ∃ (a : Addr) (ns : List Int), vs = [V.ref a] ∧ SqT K H a (ns.map V.int) ∧ ns.length < 64 ∧
  ∀ (ns' : List Int) (p : Addr), ns'.Perm ns → ns'.Pairwise (· ≤ ·) → H p = none → Q (.ref p) (upd H p (.lst (ns'.map V.int)))
theorem cr_srtT : CallR X (.builtin "sorted") (rSrtT X.K) := by
  intro pins s σ H vs us Q I r h
  obtain ⟨a, ns, rfl, hs, h64, q⟩ := h
  obtain ⟨its, rv, ⟨o, ho, hc, n, hd⟩, hz⟩ := I.tuple hs
  rw [Vals.ref1 r]
  have whole := ints_of_vals rv
  have hlen : its.length = ns.length := by rw [← rv.length, List.length_map]
  refine Calls.call_function_entry kind_sorted plain_sorted entry_sorted (args_sorted1 _) ?_
  unfold Builtin.«sorted»
  refine wpAny_bind (m := checkCount "sorted" 1 1 _) (wpAny_pure ?_)
  refine wpAny_bind (collect_tup ho hc hd (by rw [List.size_toArray, hlen]; rw [List.length_map] at hz; exact hz) fun h' hk hsz => ?_)
  refine wpAny_bind (wpAny_newList ?_)
  have hoL : (h'.push (seqObj "list" its.toArray 0)).get? h'.objs.size = some (seqObj "list" its.toArray 0) := Heap.get?_push_size _ rfl
  show wpAny _ _ _ _ _ { s with heap := h'.push (seqObj "list" its.toArray 0) }
  refine wpAny_bind (wpAny_holding (wpAny_call_entry slot_list_sort ⟨_, hoL, rfl⟩ entry_list_sort (list_sort_tree hoL whole (by omega) fun out ns' a1 a2 a3 => ⟨_, rfl, ?_⟩) (args_list_sort _)))
  refine wpAny_pure ⟨_, rfl, ?_⟩
  obtain ⟨ep, he'⟩ := sortedHeap_at (out := out) hoL
  have kp : ∀ b ob, s.heap.get? b = some ob → (sortedHeap (h'.push (seqObj "list" its.toArray 0)) h'.objs.size its out).get? b = some ob := fun b ob e => by
    have lt := Heap.lt_size (hk b ob e)
    rw [sortedHeap_old (Nat.ne_of_lt lt) (by rw [Heap.size_push]; exact Nat.lt_succ_of_lt lt)]
    exact Heap.get?_push_of_some _ (hk b ob e)
  have hl2 : (ns'.map V.int).length ≤ sizeLine := by rw [List.length_map, a2.length_eq]; exact small64 h64
  exact ⟨.ref _, upd H h'.objs.size (.lst (ns'.map V.int)), I.laid (t' := s.toks) kp hsz ⟨hl2, out.toList, ep, vals_of_ints a1, he'⟩, rfl, q ns' _ a2 a3 (I.hok.fresh hsz)⟩

/-! ### t * k, 1 ≤ k -/
def rRepA (K : PySem.W.Frag) : L2.R2 := fun x y H Q => ∃ l k xs, x = .ref l ∧ y = .int k ∧ SqT K H l xs ∧ xs ≠ [] ∧ 1 ≤ k ∧ k ≤ 1000 ∧ xs.length ≤ 1000 ∧ (k = 1 → Q (.ref l) H) ∧ (2 ≤ k → ∀ p, H p = none → Q (.ref p) (upd H p (.tup (List.replicate k.toNat xs).flatten)))
theorem tuple_mul1 (l : Addr) (its : Array Value) (n : Nat) (sl : Array (Option Value)) (dd : Option Addr) (u : Tok) :
    Meets (Builtin.«tuple.__mul__» ⟨[.ref l, .int 1 u], []⟩) (fun _ R s => s.heap.get? l = some { cls := .type "tuple", dict := dd, data := .seq its n, slots := sl } ∧ R (.ok (.ret (.ref l))) s) :=
  .of_wp fun prog w A R s h => by
    obtain ⟨hp, g, d, tk, os⟩ := s
    obtain ⟨hl, h⟩ := h
    have c1 : (its.isEmpty || (1 : Int) == 1) = true := by simp
    wp_walk using wpAny_loadPart' hl
    all_goals first | exact ⟨_, rfl, h⟩ | skip
theorem op_repA : OpR X (binaryOp .Mult) (rRepA X.K) := by
  intro pins s σ H x y v u Q I rx ry h
  obtain ⟨l, k, xs, rfl, rfl, hT, hne, h1, h2, hz, q1, q2⟩ := h
  by_cases hk : k = 1
  · subst hk
    cases rx
    obtain ⟨t, rfl⟩ := ry
    obtain ⟨its, r, ⟨⟨cls, dd, data, sl⟩, ho, hc, n, hd⟩, hs⟩ := I.tuple hT
    simp only at hc hd
    subst hc hd
    refine wpAny_binaryOp_repeat_ref (T := "tuple") (U := "int") (by decide) ⟨_, ho, rfl⟩ (fun s' => typeIs_int s' 1 t) noFill_tuple_mul F.fills_int_mul F.slot_int_rmul repeat_tuple F.slot_int_index.lookup
      (call_meets F.slot_int_rmul (typeIs_int s 1 t) F.entry_int_rmul (F.args_int_rmul_2 _ _) (int_rmul_tuple 1 t l its.toArray n dd sl) ⟨ho, rfl, ⟨_, ho, rfl⟩, ?_⟩)
    exact call_meets F.slot_tuple_mul ⟨_, ho, rfl⟩ F.entry_tuple_mul (F.args_tuple_mul_2 _ _) (tuple_mul1 l its.toArray n sl dd t) ⟨ho, ⟨.ref l, H, I, rfl, q1 rfl⟩⟩
  · exact op_repT pins s σ H _ _ v u Q I rx ry ⟨l, k, xs, rfl, rfl, hT, hne, by omega, h2, hz, q2 (by omega)⟩

/-! ### text * k -/
def rMulS : L2.R2 := fun x y H Q => ∃ (z : Str) (k : Int), x = .str z ∧ y = .int k ∧ 0 ≤ k ∧ k ≤ 1000 ∧ 1 ≤ z.length ∧ z.length ≤ 1000 ∧ Q (.str ⟨(List.replicate k.toNat z.cps.toList).flatten.toArray⟩) H
theorem rep_flat (z : Array Nat) : ∀ (m : Nat) (acc : Array Nat), (List.replicate m z).foldl (· ++ ·) acc = acc ++ (List.replicate m z.toList).flatten.toArray
  | 0, acc => by simp
  | m + 1, acc => by
    rw [List.replicate_succ, List.foldl_cons, rep_flat z m]
    simp [List.replicate_succ, Array.append_assoc]
    apply Array.ext'
    simp
theorem op_mulS : OpR X (binaryOp .Mult) rMulS := by
  intro pins s σ H x y v u Q I rx ry h
  obtain ⟨z, k, rfl, rfl, h0, h1, hz, hz2, q⟩ := h
  obtain ⟨t1, rfl⟩ := rx
  obtain ⟨t, rfl⟩ := ry
  have key : z.length * k.toNat ≤ 1000 * 1000 := Nat.mul_le_mul hz2 (by omega)
  refine P.mul_str (by rw [decide_eq_false (by omega), decide_eq_false (by omega)] <;> rfl) (fun a b => ?_) (fun a b => ?_) ?_
  · have hk : 0 < k := by omega
    have e : (z.length : Int) ≤ (2 ^ 63 - 1) / k := Int.le_ediv_of_mul_le hk (by
      have e1 : (k.toNat : Int) = k := by omega
      have e2 : ((z.length * k.toNat : Nat) : Int) ≤ 1000 * 1000 := by exact_mod_cast key
      rw [Int.natCast_mul, e1] at e2
      omega)
    omega
  · unfold Builtin.Str.tooLong
    rw [sizeLine_eq]
    exact decide_eq_false (by omega)
  · by_cases a : k < 1
    · have e : k = 0 := by omega
      subst e
      rw [if_pos a]
      exact ⟨by decide, ⟨.str Str.empty, H, I.tok _, ⟨_, rfl⟩, q⟩⟩
    · rw [if_neg a]
      by_cases b : k = 1
      · subst b
        rw [if_pos (by simp)]
        refine ⟨.str z, H, I, ⟨t1, rfl⟩, ?_⟩
        have e : (⟨(List.replicate (1 : Int).toNat z.cps.toList).flatten.toArray⟩ : Str) = z := by
          cases z; simp
        rw [e] at q
        exact q
      · rw [if_neg (by
          rw [Bool.or_eq_true]
          rintro (e | e)
          · exact b (beq_iff_eq.mp e)
          · have := beq_iff_eq.mp e; omega)]
        have e : ((List.replicate k.toNat z.cps).foldl (· ++ ·) #[]) = (List.replicate k.toNat z.cps.toList).flatten.toArray := by rw [rep_flat]; simp
        rw [e]
        refine ⟨?_, ⟨.str ⟨(List.replicate k.toNat z.cps.toList).flatten.toArray⟩, H, I.tok _, ⟨_, rfl⟩, q⟩⟩
        show ((List.replicate k.toNat z.cps.toList).flatten.toArray).size ≤ _
        rw [List.size_toArray, List.length_flatten, List.map_replicate, List.sum_replicate_nat, Array.length_toList]
        have : k.toNat * z.cps.size ≤ 1000 * 1000 := Nat.mul_le_mul (by omega) hz2
        rw [sizeLine_eq]; omega

/-! ### len(set(t)) -/
def tLenSetT (K : PySem.W.Frag) (ta : TE) : TE := fun σ H Q => ta σ H fun x H1 => ∃ (l : Addr) (ns : List Int), x = .ref l ∧ SqT K H1 l (ns.map V.int) ∧ ns.Nodup ∧ ns.length ≤ 4000 ∧ Q (.int (ns.length : Nat)) H1
theorem pe_lenSetT {a : Expr} {ta : TE} {p p2 q pos : Pos} (hg : Gl X "len") (hm : X.mg "len" = none) (hg2 : Gl X "set") (hm2 : X.mg "set" = none) (ha : PE X a ta) (hc : X.calm = true := by rfl)
    (na : starEach [a] X.env = (false, eval a X.env) :: starEach [] X.env := by rfl) : PE X (.Call (.Name "len" p) [.Call (.Name "set" p2) [a] [] q] [] pos) (tLenSetT X.K ta) := by
  refine ⟨fun pins s σ H Q I h => Call_ (ld_blt I hg hm boot_len (callWith_builtin1 (args_cons (Call_ (ld_blt I hg2 hm2 boot_set (PyProof.Rows.callWith_type1 (args_cons (thn (ha.run pins s σ H _ I h) fun v s1 ⟨x, H1, I1, r1, q1⟩ => args_nil ?_) na) na rfl))) rfl) rfl rfl))⟩
  obtain ⟨l, ns, rfl, hq, nd, hl, q1⟩ := q1
  cases r1
  obtain ⟨its, r, ⟨o, ho, hcl, n, hd⟩, hz⟩ := I1.tuple hq
  have whole := ints_of_vals r
  refine call_set_tupI ns (I1.ok.hd hc) ⟨o, ho, hcl, n, hd⟩ (by simpa using whole) (by unfold scanBound; omega) fun h' tk c hS hc' hk => args_nil ?_
  obtain ⟨o2, es, ep, t, ho2, hex, hd2, _, hnd, hmem, _, hf, hn, _, _⟩ := hS
  have I2 : Inv X pins σ H1 { s1 with heap := h', toks := tk } := I1.kept hk
  have perm : (es.toList.map keyOf).Perm ns := (List.perm_ext_iff_of_nodup hnd nd).mpr fun k => by
    rw [← hmem k]; simp
  have cnt : es.size = ns.length := by rw [← perm.length_eq, List.length_map, Array.length_toList]
  exact call_len_set ho2 hex hd2 hf (by rw [cnt]; omega) ⟨.int ns.length, H1, I2.tok _, ⟨_, by rw [cnt]⟩, q1⟩

/-! ### xs[i] op= e -/
def rGetL : V → V → Hp → VK → Prop := fun o i H Q => ∃ (p : Addr) (xs : List V) (j : Nat) (v : V), o = .ref p ∧ i = .int (j : Nat) ∧ H p = some (.lst xs) ∧ xs[j]? = some v ∧ Q v H
theorem pget_list : PGet X rGetL := by
  intro pins s σ H o i ov iv Q I r1 r2 h
  obtain ⟨p, xs, j, v, rfl, rfl, hp, hv, q⟩ := h
  cases r1
  obtain ⟨t, rfl⟩ := r2
  obtain ⟨its, r, pl, hz⟩ := I.list (SqL.of hp)
  obtain ⟨w, ew, rw'⟩ := r.get hv
  have lt : j < xs.length := (List.getElem?_eq_some_iff.mp hv).1
  have hn := line63
  exact wpAny_getItem_list pl.isList (by omega) (by omega) (by simpa using ew) ⟨v, H, I, rw', q⟩
end

/-! ### enumerate -/
theorem draws_tup {prog : Program} {w : World} {A : Around} (hh : A.handled = none) (it l : Addr) (hne : l ≠ it) (arr : Array Value) :
    Draws prog w A it [it, l] arr.size (fun i v => arr[i]? = some v) (fun i h => IsTupIter h it l i ∧ IsTup h l arr) where
  live := fun _ _ st => let ⟨o, ho, _⟩ := st.1; ⟨o, ho⟩
  frame := fun _ _ _ st hk => by
    obtain ⟨⟨o, ho, r⟩, o2, ho2, r2⟩ := st
    exact ⟨⟨o, hk it (by simp) o ho, r⟩, o2, hk l (by simp) o2 ho2, r2⟩
  item := fun i s Q E hi st hQ => by
    unfold Builtin.SmallTypes.nextOf
    refine wpAny_bind (special_tup_item st.1 st.2 (x := arr[i]) (by simp [hi]) fun h' hit' hs' => wpAny_pure ?_)
    exact hQ _ h' s.toks (by simp [hi]) ⟨hit', st.2.extBut hs'.extBut hne⟩ hs'
  done := fun s Q E st hE => by
    unfold Builtin.SmallTypes.nextOf
    refine wpAny_bind (special_tup_end hh st.1 st.2 (by simp) fun e h' hS hk => ?_)
    obtain ⟨a, o, vs, rfl, ho, hc, _⟩ := hS
    exact hE h' a hk ⟨o, ho, hc⟩
section
variable {X : Cx} {pins : List (Addr × Obj)} {σ : L2.St} {H : Hp} {s : Shared}
/-- one turn -/
theorem enum_step {e it : Addr} {fp : List Addr} {n i : Nat} {P : Nat → Value → Prop} {St : Nat → Heap → Prop} {old : Value} {E : Value → Shared → Prop} {elts : List Expr} {kk : Nat} {tpos : Pos} {rel : Nat → V → Prop} (D : Draws X.prog X.w X.A.in1 it fp n P St)
    (I : Inv X pins σ H s) (hf : ∀ b ∈ [e, it], FpOk X pins H b) (he : IsEnum s.heap e it i old) (hst : St i s.heap) (hlt : i < n) (hne : e ≠ it) (hef : e ∉ fp) (hr : ∀ v, P i v → ∃ x, rel i x ∧ RelV x v) :
    wpAny (model X.prog X.w) X.A (pyNext (.ref e)) (fun r s1 => ∃ u, r = some u ∧ wpAny (model X.prog X.w) X.A (letOwnedTupleGo (.Tuple elts kk tpos) (.ref e) u)
      (fun _ s2 => ∃ x H', Inv X pins σ H' s2 ∧ RelV x u ∧ (∃ T y, x = .ref T ∧ H T = none ∧ H' = upd H T (.tup [.int (i : Nat), y]) ∧ rel i y) ∧ (∃ o2, IsEnum s2.heap e it ((i + 1 : Nat) : Int) o2) ∧ St (i + 1) s2.heap ∧ ∀ b ∈ [e, it], H' b = none) E s1) E s := by
  have hel : e < s.heap.objs.size := Heap.lt_size he
  have hil : it < s.heap.objs.size := by obtain ⟨o, q⟩ := D.live _ _ hst; exact Heap.lt_size q
  refine wpAny_pyNext_enum_itemD D he hst hlt hne hef fun x h' tk hP ho hst' hT hsz hk => ?_
  obtain ⟨y, hy, ry⟩ := hr x hP
  refine ⟨_, rfl, wpAny_letOwnedTupleGo_enum (s := { s with heap := h', toks := tk + 1 }) ho fun h'' he' sb => ?_⟩
  have hT2 : h''.get? s.heap.objs.size = some { cls := .type "tuple", data := .seq #[.int i tk, x] } := (sb.2 _ (Nat.ne_of_gt hel)).trans hT
  have new : ObjOk X.prog X.w (upd H s.heap.objs.size (.tup [.int (i : Nat), y])) h'' s.heap.objs.size (.tup [.int (i : Nat), y]) := ⟨by show 2 ≤ sizeLine; decide, [.int i tk, x], .cons ⟨_, rfl⟩ (.cons ry .nil), ⟨_, hT2, rfl, _, rfl⟩⟩
  have keep : ∀ b ob, b ∉ [e, it] → s.heap.get? b = some ob → h''.get? b = some ob := fun b ob hb q => (sb.2 b fun z => hb (by simp [z])).trans (hk b ob (fun z => hb (by simp [z])) (fun z => hb (by simp [z])) q)
  have I1 : Inv X pins σ (upd H s.heap.objs.size (.tup [.int (i : Nat), y])) { s with heap := h'', toks := tk + 1 } := I.turnedNew (ch := [e, it]) keep hf (Nat.le_refl _) new
  refine ⟨.ref s.heap.objs.size, _, I1, rfl, ⟨_, y, rfl, I.hok.fresh (Nat.le_refl _), rfl, hy⟩, ⟨x, ?_⟩, D.frame _ _ _ hst' fun b hb ob q => (sb.2 b fun z => hef (z ▸ hb)).trans q, fun b hb => ?_⟩
  · have e1 : ((i + 1 : Nat) : Int) = (i : Int) + 1 := by omega
    rw [e1]; exact he'
  · have hb' : b < s.heap.objs.size := by
      rcases List.mem_cons.mp hb with z | z
      · rw [z]; exact hel
      · rw [List.mem_singleton.mp z]; exact hil
    rw [upd_ne (Nat.ne_of_lt hb')]
    exact (hf b hb).1
end
/-- the items' places -/
def IteN (n : Nat) (rel : Nat → V → Prop) : It := ⟨fun i _ => i < n, fun i H v H' => ∃ T y, v = .ref T ∧ H T = none ∧ H' = upd H T (.tup [.int (i : Nat), y]) ∧ rel i y, fun i _ => i = n⟩
theorem turn_enumS {P : Program} {w : World} {K : PySem.W.Frag} {elts : List Expr} {kk : Nat} {tpos : Pos} (e it : Addr) (x : Str) (t : Tok) :
    Turn P w K (.Tuple elts kk tpos) (IteN x.cps.size fun i v => ∃ c, x.cps[i]? = some c ∧ v = .str ⟨#[c]⟩) [e, it] e (fun i h => (∃ old, IsEnum h e it ((i : Nat) : Int) old) ∧ h.IsStrIter it (strIterType x) x t i ∧ e ≠ it) := by
  have D : ∀ A : Around, A.handled = none → Draws P w A it [it] x.cps.size (fun i v => ∃ c u, x.cps[i]? = some c ∧ v = .str ⟨#[c]⟩ u) (fun i h => h.IsStrIter it (strIterType x) x t i) := fun A hA => by
    unfold strIterType
    cases ha : x.cps.all (· < 128)
    · exact Draws.strWide hA it x t
    · exact Draws.strAscii hA it x t
  refine ⟨by simp, fun i h st b hb => ?_, fun i h h' st k => ?_, ?_, ?_, fun A i s Q E st h => let ⟨⟨_, he⟩, _⟩ := st; wpAny_pyIter_enum he h⟩
  · obtain ⟨⟨old, he⟩, ⟨o, ho, hc, hd⟩, _⟩ := st
    rcases List.mem_cons.mp hb with z | z
    · rw [z]; exact ⟨_, he, fun v q => nomatch q⟩
    · rw [List.mem_singleton.mp z]; exact ⟨o, ho, fun v q => by rw [hd] at q; cases q⟩
  · obtain ⟨⟨old, he⟩, ⟨o, ho, r⟩, hne⟩ := st
    exact ⟨⟨old, k e (by simp) _ he⟩, ⟨o, k it (by simp) o ho, r⟩, hne⟩
  · intro X hP hw hK hc i pins s σ H E I hf st hg
    subst hP hw hK
    obtain ⟨⟨old, he⟩, hit, hne⟩ := st
    refine wpAny_mono (enum_step (rel := fun i v => ∃ c, x.cps[i]? = some c ∧ v = .str ⟨#[c]⟩) (D X.A.in1 (I.ok.hd hc)) I hf he hit hg hne (by simp [hne]) fun v ⟨c, u, h1, h2⟩ => ⟨_, ⟨c, h1, rfl⟩, ⟨u, h2⟩⟩) (fun r s1 ⟨u, hr, h⟩ => ⟨u, hr, wpAny_mono h (fun _ s2 ⟨y, H', q1, q2, q3, q4, q5, q6⟩ => ⟨y, H', q1, q2, q3, ⟨q4, q5, hne⟩, q6⟩) fun _ _ z => z⟩) fun _ _ z => z
  · intro X hP hw hK hc i pins s σ H E I hf st hg
    subst hP hw hK
    obtain ⟨⟨old, he⟩, hit, hne⟩ := st
    have hg' : i = x.cps.size := hg
    subst hg'
    obtain ⟨f0, f1, f2, f3, f4, f5⟩ := hf it (by simp)
    exact wpAny_pyNext_enum_endD (D X.A.in1 (I.ok.hd hc)) he hit fun h' hx => ⟨rfl, I.turned (t' := s.toks) (fun b o hb q => hx b o hb q) f0 f1 f3 f4 f5⟩
/-- the tuple at a -/
def IteT (K : PySem.W.Frag) (a : Addr) : It :=
  ⟨fun i H => ∃ (xs : List V), SqT K H a xs ∧ i < xs.length, fun i H v H' => ∃ T y, v = .ref T ∧ H T = none ∧ H' = upd H T (.tup [.int (i : Nat), y]) ∧ ∀ xs, SqT K H a xs → xs[i]? = some y, fun i H => ∃ xs : List V, SqT K H a xs ∧ i = xs.length⟩
theorem turn_enumT {P : Program} {w : World} {K : PySem.W.Frag} {elts : List Expr} {kk : Nat} {tpos : Pos} (a e it : Addr) :
    Turn P w K (.Tuple elts kk tpos) (IteT K a) [e, it] e (fun i h => (∃ old, IsEnum h e it ((i : Nat) : Int) old) ∧ IsTupIter h it a i ∧ e ≠ it ∧ e ≠ a ∧ a ≠ it) := by
  refine ⟨by simp, fun i h st b hb => ?_, fun i h h' st k => ?_, ?_, ?_, fun A i s Q E st h => let ⟨⟨_, he⟩, _⟩ := st; wpAny_pyIter_enum he h⟩
  · obtain ⟨⟨old, he⟩, ⟨o, ho, hc, hd⟩, _⟩ := st
    rcases List.mem_cons.mp hb with z | z
    · rw [z]; exact ⟨_, he, fun v q => nomatch q⟩
    · rw [List.mem_singleton.mp z]; exact ⟨o, ho, fun v q => by rw [hd] at q; cases q⟩
  · obtain ⟨⟨old, he⟩, ⟨o, ho, r⟩, hne⟩ := st
    exact ⟨⟨old, k e (by simp) _ he⟩, ⟨o, k it (by simp) o ho, r⟩, hne⟩
  · intro X hP hw hK hc i pins s σ H E I hf st hg
    subst hP hw hK
    obtain ⟨⟨old, he⟩, hit, n1, n2, n3⟩ := st
    obtain ⟨xs, hx, hlt⟩ := hg
    obtain ⟨its, rv, p, hz⟩ := I.tuple hx
    have hl : its.toArray.size = xs.length := by rw [List.size_toArray, rv.length]
    refine wpAny_mono (enum_step (rel := fun i y => xs[i]? = some y) (draws_tup (prog := X.prog) (w := X.w) (A := X.A.in1) (show X.A.in1.handled = none from I.ok.hd hc) it a n3 its.toArray) I hf he ⟨hit, p⟩ (by rw [hl]; exact hlt) n1 (by simp [n1, n2]) fun v hv => ?_)
      (fun r s1 ⟨u, hr, h⟩ => ⟨u, hr, wpAny_mono h (fun _ s2 ⟨y, H', q1, q2, ⟨T, z, q3, q4, q5, q6⟩, q7, q8, q9⟩ => ⟨y, H', q1, q2, ⟨T, z, q3, q4, q5, fun ys hy => by rw [I.tuple_inj hy hx]; exact q6⟩, ⟨q7, q8.1, n1, n2, n3⟩, q9⟩) fun _ _ z => z⟩) fun _ _ z => z
    obtain ⟨u, hu, ru⟩ := rv.get (List.getElem?_eq_getElem hlt)
    have hv' : its[i]? = some v := by simpa using hv
    rw [hu] at hv'
    cases hv'
    exact ⟨_, List.getElem?_eq_getElem hlt, ru⟩
  · intro X hP hw hK hc i pins s σ H E I hf st hg
    subst hP hw hK
    obtain ⟨⟨old, he⟩, hit, n1, n2, n3⟩ := st
    obtain ⟨xs, hx, hlt⟩ := hg
    obtain ⟨its, rv, p, hz⟩ := I.tuple hx
    have hl : its.toArray.size = xs.length := by rw [List.size_toArray, rv.length]
    obtain ⟨f0, f1, f2, f3, f4, f5⟩ := hf it (by simp)
    exact wpAny_pyNext_enum_endD (draws_tup (prog := X.prog) (w := X.w) (A := X.A.in1) (show X.A.in1.handled = none from I.ok.hd hc) it a n3 its.toArray) he ⟨by rw [hl, ← hlt]; exact hit, p⟩ fun h' hx => ⟨rfl, I.turned (t' := s.toks) (fun b o hb q => hx b o hb q) f0 f1 f3 f4 f5⟩
end RR
/-! R2: enumerate(t), enumerate(s) as what a for walks; a, b = x, y where a def is loud; statements of G that were missing. -/
namespace GG
open PySem
open PySem.Spec
open PyProof.Rows
open L2
open RR

theorem enum_new_tup (l : Addr) (items : Array Value) (n : Nat) (dct : Option Addr) (sl : Array (Option Value)) :
    Meets (Builtin.«enumerate.__new__» ⟨[.type "enumerate", .ref l], []⟩) (fun _ R s => s.heap.get? l = some { cls := .type "tuple", dict := dct, data := .seq items n, slots := sl } ∧
      R (.ok (.ret (.ref (s.heap.push { cls := .type "tuple_iterator", data := .fields #[.ref l, .int 0 0] }).objs.size)))
        { s with heap := (s.heap.push { cls := .type "tuple_iterator", data := .fields #[.ref l, .int 0 0] }).push { cls := .type "enumerate", data := .fields #[.none, .bool false, .ref s.heap.objs.size, rawInt 0, .none, .none] } }) :=
  .of_wp fun prog w A R s h => by
    obtain ⟨hp, g, d, tk, os⟩ := s
    obtain ⟨hl, h⟩ := h
    have hsub := sub_enumerate
    have hT : Heap.IsTuple (Shared.heap ⟨hp, g, d, tk, os⟩) l items := ⟨_, hl, rfl, n, rfl⟩
    wp_walk using wpAny_loadPart' hl
    refine wpAny_stack_any fun st => wpAny_pure ?_
    split
    · rename_i c _ _ _ _ _
      cases (c == Value.type "enumerate")
      · wp_walk using wpAny_loadPart' hl, wpAny_pyIter_tuple hT
        exact ⟨_, rfl, h⟩
      · wp_walk using wpAny_loadPart' hl, wpAny_pyIter_tuple hT
        exact ⟨_, rfl, h⟩
    · wp_walk using wpAny_loadPart' hl, wpAny_pyIter_tuple hT
      exact ⟨_, rfl, h⟩
theorem call_enum_tup {prog : Program} {w : World} {A : Around} {E : Value → Shared → Prop} {s : Shared} {l : Addr} {items : Array Value} {Q : Value → Shared → Prop} (hL : IsTup s.heap l items)
    (h : ∀ h', IsEnum h' (s.heap.objs.size + 1) s.heap.objs.size 0 .none → IsTupIter h' s.heap.objs.size l 0 → (∀ b o, s.heap.get? b = some o → h'.get? b = some o) → Q (.ref (s.heap.objs.size + 1)) { s with heap := h' }) :
    wpAny (model prog w) A (call (.type "enumerate") [.ref l]) Q E s := by
  obtain ⟨⟨c, dct, dt, sl⟩, hl, hc, n, hd⟩ := hL
  simp only at hc hd
  subst hc hd
  refine callType_new F.called_enumerate (by decide) (F.typeCall_enumerate_1 _) (F.newCall_enumerate_1 _) (fun obj => F.args_object_init_2 obj _) F.entry_enumerate_new (enum_new_tup l items n dct sl) ⟨hl, ?_⟩
  generalize hi : ({ cls := .type "tuple_iterator", data := .fields #[.ref l, .int 0 0] } : Obj) = oi
  have it0 : (s.heap.push oi).get? s.heap.objs.size = some oi := by subst hi; exact Heap.get?_push_size _ rfl
  have sz : (s.heap.push oi).objs.size = s.heap.objs.size + 1 := Heap.size_push ..
  have en := Heap.get?_push_size (s.heap.push oi) (o := { cls := .type "enumerate", data := .fields #[.none, .bool false, .ref s.heap.objs.size, rawInt 0, .none, .none] }) rfl
  rw [sz] at en
  show _ ∧ _
  rw [sz]
  refine ⟨⟨_, en, rfl⟩, h _ en ⟨oi, Heap.get?_push_of_some _ it0, by subst hi; rfl, by subst hi; rfl⟩ fun b o x => Heap.get?_push_of_some _ (Heap.get?_push_of_some _ x)⟩

section
variable {Z : Result → Shared → Prop} {X : Cx} {e : Expr} {te : TE} {p pos tpos : Pos} {elts : List Expr} {kk : Nat}
theorem two_fp {pins : List (Addr × Obj)} {σ : L2.St} {H : Hp} {s : Shared} (I : Inv X pins σ H s) : ∀ b ∈ [s.heap.objs.size + 1, s.heap.objs.size], FpOk X pins H b := fun b hb => by
  have le : s.heap.objs.size ≤ b := by
    rcases List.mem_cons.mp hb with z | z
    · rw [z]; exact Nat.le_succ _
    · rw [List.mem_singleton.mp z]; exact Nat.le_refl _
  exact I.fpOk le (I.hok.fresh le)
abbrev ItS (x : Str) : It := IteN x.cps.size fun i v => ∃ c, x.cps[i]? = some c ∧ v = .str ⟨#[c]⟩
def iEnumS (te : TE) : TI := fun σ H R => te σ H fun v H1 => ∃ x, v = .str x ∧ R (ItS x) H1
theorem pi_enumS (hg : Gl X "enumerate") (hm : X.mg "enumerate" = none) (he : PE X e te) (hs : starEach [e] X.env = (false, eval e X.env) :: starEach [] X.env := by rfl) :
    PI X (.Tuple elts kk tpos) (.Call (.Name "enumerate" p) [e] [] pos) (iEnumS te) := by
  refine ⟨fun pins s σ H R I h => Call_ (ld_blt I hg hm boot_enumerate (PyProof.Rows.callWith_type1 (args_cons (thn (he.run pins s σ H _ I h) fun v s1 ⟨y, H1, I1, r1, x, ex, q⟩ => args_nil ?_) hs) hs rfl))⟩
  subst ex
  obtain ⟨t, rfl⟩ := r1
  refine call_enumerate_str fun h' hen hit hsz hk => wpAny_pyIter_enum hen ?_
  have I2 : Inv X pins σ H1 { s1 with heap := h' } := I1.kept (t' := s1.toks) hk
  exact ⟨s1.heap.objs.size + 1, [s1.heap.objs.size + 1, s1.heap.objs.size], _, _, H1, rfl, I2, turn_enumS _ _ x t, ⟨⟨.none, hen⟩, hit, Nat.succ_ne_self _⟩, two_fp I1, q⟩
def iEnumT (K : PySem.W.Frag) (te : TE) : TI := fun σ H R => te σ H fun v H1 => ∃ a xs, v = .ref a ∧ SqT K H1 a xs ∧ R (IteT K a) H1
theorem pig_enumT (hg : Gl X "enumerate") (hm : X.mg "enumerate" = none) (he : PEg Z X e te) (hs : starEach [e] X.env = (false, eval e X.env) :: starEach [] X.env := by rfl) :
    PIg Z X (.Tuple elts kk tpos) (.Call (.Name "enumerate" p) [e] [] pos) (iEnumT X.K te) := by
  refine ⟨fun c pins s dl σ H R I d h => ?_⟩
  show wpG _ Z X.A NoY c (eval (.Name "enumerate" p) X.env >>= fun fv => callWith pos fv [] (backTo pos (starEach [e] X.env)) []) _ _ dl s
  refine wpG_bind (wpG_of (ld_blt I hg hm boot_enumerate ?_))
  rw [hs]
  show wpG _ Z X.A NoY c (callWith pos (.type "enumerate") [] [(false, eval e X.env)] []) _ _ dl s
  refine wpG_callType1 (wpG_thn (he.run c pins s dl σ H _ I d h) fun v s1 dl1 ⟨y, H1, I1, d1, r1, a, xs, ex, hx, q⟩ => ?_)
  subst ex
  cases r1
  obtain ⟨its, rv, tp, hz⟩ := I1.tuple hx
  have hlt : a < s1.heap.objs.size := tp.lt
  refine wpG_of (call_enum_tup tp fun h' hen hit hk => wpG_of (wpAny_pyIter_enum hen ?_))
  have I2 : Inv X pins σ H1 { s1 with heap := h' } := I1.kept (t' := s1.toks) hk
  refine ⟨s1.heap.objs.size + 1, [s1.heap.objs.size + 1, s1.heap.objs.size], _, _, H1, rfl, I2, d1.kept hk, turn_enumT a _ _, ⟨⟨.none, hen⟩, hit, Nat.succ_ne_self _, Nat.ne_of_gt (Nat.lt_succ_of_lt hlt), Nat.ne_of_lt hlt⟩, two_fp I1, fun i hh st b hb o ho => ?_, q⟩
  obtain ⟨⟨old, he⟩, ⟨o2, ho2, hc2, hd2⟩, _⟩ := st
  rcases List.mem_cons.mp hb with z | z
  · rw [z, he] at ho; cases ho; rfl
  · rw [List.mem_singleton.mp z, ho2] at ho
    cases ho
    simp [Obj.genNumber?, hc2]

/-! ### a, b = x, y -/
theorem psg_par {i j : Nat} {x y : Str} {a b : Expr} {ta : TA} {px py pt : Pos} {kt k2 : Nat} {pt2 : Pos} (hc : X.calm = true) (hN : X.N.Nodup) (hi : X.N[i]? = some x) (hj : X.N[j]? = some y) (hij : i ≠ j)
    (hx : X.env.scope.names.lookup x = some .local) (hy : X.env.scope.names.lookup y = some .local) (ha : PAg Z X [a, b] ta)
    (hw : swappedStores [.Tuple [.Name x px, .Name y py] kt pt] (.Tuple [a, b] k2 pt2) X.env = pure (some [x, y]))
    (hs : swapsWithSole [.Tuple [.Name x px, .Name y py] kt pt] (.Tuple [a, b] k2 pt2) pos.line X.env = pure false := by rfl) :
    PSg Z X (.Assign [.Tuple [.Name x px, .Name y py] kt pt] (.Tuple [a, b] k2 pt2) pos) (tQ (tPar i j ta)) := by
  refine ⟨fun c pins s dl σ H D yl I d h => ?_⟩
  rw [exec_Assign_arm]
  refine wpG_bind (wpG_standAt ?_)
  rw [hs]
  refine wpG_bind (wpG_pure ?_)
  rw [if_neg (by decide)]
  refine wpG_bind ?_
  show wpG _ Z X.A (YX X yl) c (standAt pt2 >>= fun _ => spliced (backTo pt2 (starEach [a, b] X.env)) >>= fun us => newTuple us) _ _ dl s
  refine wpG_bind (wpG_standAt (wpG_bind (wpG_noY (wpG_thn (ha.run pt2 c pins s dl σ H _ I d h) fun us s1 dl1 ⟨vs, H1, I1, d1, r1, v, w, e1, q1⟩ => ?_))))
  subst e1
  obtain ⟨u1, u2, rfl, rv, rw'⟩ : ∃ u1 u2, us = [u1, u2] ∧ RelV v u1 ∧ RelV w u2 := by
    cases r1 with
    | cons p1 rest =>
      cases rest with
      | cons p2 rest =>
        cases rest
        exact ⟨_, _, rfl, p1, p2⟩
  refine quiet_ep I1 d1 fun pins' I1' => wpAny_newObj_type ?_ (by show 2 ≤ sizeLine; decide)
  intro kk0
  have I2 := I1'.kept (t' := s1.toks) (h' := s1.heap.push { cls := .type "tuple", data := .seq [u1, u2].toArray }) fun b o e => Heap.get?_push_of_some _ e
  obtain ⟨I2, d2⟩ := kk0 _ _ I2
  rw [hw]
  refine wpG_bind (wpG_pure ?_)
  show wpG (model X.prog X.w) Z X.A (YX X yl) c (do rule "assign.swapped-stores"; let items ← unpackItems (.ref s1.heap.objs.size) 2 none; assignInOrder [fun v => bindName X.env y v, fun v => bindName X.env x v] items.reverse; pure Flow.next) _ _ dl1 _
  refine quiet_ep I2 d2 fun pins2 I2' => ?_
  refine wpAny_bind (wpAny_rule (wpAny_bind (unpackItems_tuple (items := #[u1, u2]) (I.ok.hd hc) (IsTup.new s1.heap _) fun h' hx' => ?_)))
  have I3 := I2'.kept (h' := h') (t' := s1.toks) fun b o e => hx' b o (Nat.ne_of_lt (Heap.lt_size e)) e
  show wpAny (model X.prog X.w) X.A (assignInOrder [fun v => bindName X.env y v, fun v => bindName X.env x v] [u2, u1] >>= fun _ => pure Flow.next) _ _ _
  refine wpAny_bind (assignInOrder_cons (wpAny_bindName (store_ok I3 hN hj (.inl hy) rw' (fun s2 J4 => ?_) (.inr hy))))
  refine assignInOrder_cons (wpAny_bindName (store_ok J4 hN hi (.inl hx) rv (fun s3 J5 => assignInOrder_nil (wpAny_pure fun kk1 => ?_)) (.inr hx)))
  rw [List.set_comm _ _ (Ne.symm hij)] at J5
  obtain ⟨J6, d6⟩ := kk1 _ _ J5
  exact ⟨_, H1, J6, d6, q1⟩
end
end GG
/-! D0: the module's facts by names (printed by gen_d0.py). -/
namespace GG
open PySem
open PySem.Spec
open PyProof.Rows
open L2
open RR
structure Md (K : PySem.W.Frag) (mg : Str → Option Value) : Prop where
  c : He.SaysD hdFa hdFn K
  b : ∃ h : Heap, K.In h ∧ h.Ns mainGlobals mg
section
variable {K : PySem.W.Frag} {mg : Str → Option Value}
theorem Md.glo (m : Md K mg) (x : Str) (h : (He.Fa.glo x).ok K = true) : mg x = some (.ref (He.ga K x)) := let ⟨_, k, g⟩ := m.b; He.glo_ok k g h
theorem Md.free (m : Md K mg) (x : Str) (h : (He.Fa.free x).ok K = true) : mg x = none := let ⟨_, k, g⟩ := m.b; He.free_ok k g h
theorem Md.int (m : Md K mg) (x : Str) (i : Int) (h : (He.Fa.int x i).ok K = true) : ∃ t, mg x = some (.int i t) := let ⟨_, k, g⟩ := m.b; He.int_ok k g h
theorem Md.str (m : Md K mg) (x z : Str) (h : (He.Fa.str x z).ok K = true) : ∃ t, mg x = some (.str z t) := let ⟨_, k, g⟩ := m.b; He.str_ok k g h
theorem Md.g_is_integer (m : Md K mg) : mg "is_integer" = some (.ref (He.ga K "is_integer")) := m.glo _ (m.c.fact 0 rfl)
theorem Md.g_is_preference (m : Md K mg) : mg "is_preference" = some (.ref (He.ga K "is_preference")) := m.glo _ (m.c.fact 1 rfl)
theorem Md.g_is_lane (m : Md K mg) : mg "is_lane" = some (.ref (He.ga K "is_lane")) := m.glo _ (m.c.fact 2 rfl)
theorem Md.g_check_preference (m : Md K mg) : mg "check_preference" = some (.ref (He.ga K "check_preference")) := m.glo _ (m.c.fact 3 rfl)
theorem Md.g_ranks_rule (m : Md K mg) : mg "ranks_rule" = some (.ref (He.ga K "ranks_rule")) := m.glo _ (m.c.fact 4 rfl)
theorem Md.g_polite_rule (m : Md K mg) : mg "polite_rule" = some (.ref (He.ga K "polite_rule")) := m.glo _ (m.c.fact 5 rfl)
theorem Md.g_turns_rule (m : Md K mg) : mg "turns_rule" = some (.ref (He.ga K "turns_rule")) := m.glo _ (m.c.fact 6 rfl)
theorem Md.g_preference_after (m : Md K mg) : mg "preference_after" = some (.ref (He.ga K "preference_after")) := m.glo _ (m.c.fact 7 rfl)
theorem Md.g_first_lane (m : Md K mg) : mg "first_lane" = some (.ref (He.ga K "first_lane")) := m.glo _ (m.c.fact 8 rfl)
theorem Md.g_word_error (m : Md K mg) : mg "word_error" = some (.ref (He.ga K "word_error")) := m.glo _ (m.c.fact 9 rfl)
theorem Md.g_first_car (m : Md K mg) : mg "first_car" = some (.ref (He.ga K "first_car")) := m.glo _ (m.c.fact 10 rfl)
theorem Md.g_steps_of (m : Md K mg) : mg "steps_of" = some (.ref (He.ga K "steps_of")) := m.glo _ (m.c.fact 11 rfl)
theorem Md.g_check_word (m : Md K mg) : mg "check_word" = some (.ref (He.ga K "check_word")) := m.glo _ (m.c.fact 12 rfl)
theorem Md.g_check_lane (m : Md K mg) : mg "check_lane" = some (.ref (He.ga K "check_lane")) := m.glo _ (m.c.fact 13 rfl)
theorem Md.g_check_last (m : Md K mg) : mg "check_last" = some (.ref (He.ga K "check_last")) := m.glo _ (m.c.fact 14 rfl)
theorem Md.g_spot_of (m : Md K mg) : mg "spot_of" = some (.ref (He.ga K "spot_of")) := m.glo _ (m.c.fact 15 rfl)
theorem Md.g_lanes_ahead (m : Md K mg) : mg "lanes_ahead" = some (.ref (He.ga K "lanes_ahead")) := m.glo _ (m.c.fact 16 rfl)
theorem Md.g_bound_of (m : Md K mg) : mg "bound_of" = some (.ref (He.ga K "bound_of")) := m.glo _ (m.c.fact 17 rfl)
theorem Md.g_lane_bounds (m : Md K mg) : mg "lane_bounds" = some (.ref (He.ga K "lane_bounds")) := m.glo _ (m.c.fact 18 rfl)
theorem Md.g_starving (m : Md K mg) : mg "starving" = some (.ref (He.ga K "starving")) := m.glo _ (m.c.fact 19 rfl)
theorem Md.g_favoured (m : Md K mg) : mg "favoured" = some (.ref (He.ga K "favoured")) := m.glo _ (m.c.fact 20 rfl)
theorem Md.g_waits (m : Md K mg) : mg "waits" = some (.ref (He.ga K "waits")) := m.glo _ (m.c.fact 21 rfl)
theorem Md.g_passed_over (m : Md K mg) : mg "passed_over" = some (.ref (He.ga K "passed_over")) := m.glo _ (m.c.fact 22 rfl)
theorem Md.g_long_run (m : Md K mg) : mg "long_run" = some (.ref (He.ga K "long_run")) := m.glo _ (m.c.fact 23 rfl)
theorem Md.g_worst_day (m : Md K mg) : mg "worst_day" = some (.ref (He.ga K "worst_day")) := m.glo _ (m.c.fact 24 rfl)
theorem Md.g__law_loom (m : Md K mg) : mg "_law_loom" = some (.ref (He.ga K "_law_loom")) := m.glo _ (m.c.fact 25 rfl)
theorem Md.g__law_weave (m : Md K mg) : mg "_law_weave" = some (.ref (He.ga K "_law_weave")) := m.glo _ (m.c.fact 26 rfl)
theorem Md.g__law_mixed (m : Md K mg) : mg "_law_mixed" = some (.ref (He.ga K "_law_mixed")) := m.glo _ (m.c.fact 27 rfl)
theorem Md.g__law_rule (m : Md K mg) : mg "_law_rule" = some (.ref (He.ga K "_law_rule")) := m.glo _ (m.c.fact 28 rfl)
theorem Md.g__law_row (m : Md K mg) : mg "_law_row" = some (.ref (He.ga K "_law_row")) := m.glo _ (m.c.fact 29 rfl)
theorem Md.g__law_word (m : Md K mg) : mg "_law_word" = some (.ref (He.ga K "_law_word")) := m.glo _ (m.c.fact 30 rfl)
theorem Md.g__law_days_right (m : Md K mg) : mg "_law_days_right" = some (.ref (He.ga K "_law_days_right")) := m.glo _ (m.c.fact 31 rfl)
theorem Md.g__law_favoured_right (m : Md K mg) : mg "_law_favoured_right" = some (.ref (He.ga K "_law_favoured_right")) := m.glo _ (m.c.fact 32 rfl)
theorem Md.g__law_ranked (m : Md K mg) : mg "_law_ranked" = some (.ref (He.ga K "_law_ranked")) := m.glo _ (m.c.fact 33 rfl)
theorem Md.g__law_named_right (m : Md K mg) : mg "_law_named_right" = some (.ref (He.ga K "_law_named_right")) := m.glo _ (m.c.fact 34 rfl)
theorem Md.g_law (m : Md K mg) : mg "law" = some (.ref (He.ga K "law")) := m.glo _ (m.c.fact 35 rfl)
theorem Md.g_Arrows (m : Md K mg) : mg "Arrows" = some (.ref (He.ga K "Arrows")) := m.glo _ (m.c.fact 36 rfl)
theorem Md.n_isinstance (m : Md K mg) : mg "isinstance" = none := m.free _ (m.c.fact 37 rfl)
theorem Md.n_int (m : Md K mg) : mg "int" = none := m.free _ (m.c.fact 38 rfl)
theorem Md.n_bool (m : Md K mg) : mg "bool" = none := m.free _ (m.c.fact 39 rfl)
theorem Md.n_tuple (m : Md K mg) : mg "tuple" = none := m.free _ (m.c.fact 40 rfl)
theorem Md.n_len (m : Md K mg) : mg "len" = none := m.free _ (m.c.fact 41 rfl)
theorem Md.n_all (m : Md K mg) : mg "all" = none := m.free _ (m.c.fact 42 rfl)
theorem Md.n_set (m : Md K mg) : mg "set" = none := m.free _ (m.c.fact 43 rfl)
theorem Md.n_range (m : Md K mg) : mg "range" = none := m.free _ (m.c.fact 44 rfl)
theorem Md.n_str (m : Md K mg) : mg "str" = none := m.free _ (m.c.fact 45 rfl)
theorem Md.n_enumerate (m : Md K mg) : mg "enumerate" = none := m.free _ (m.c.fact 46 rfl)
theorem Md.n_sorted (m : Md K mg) : mg "sorted" = none := m.free _ (m.c.fact 47 rfl)
theorem Md.n_max (m : Md K mg) : mg "max" = none := m.free _ (m.c.fact 48 rfl)
theorem Md.n_min (m : Md K mg) : mg "min" = none := m.free _ (m.c.fact 49 rfl)
theorem Md.n_list (m : Md K mg) : mg "list" = none := m.free _ (m.c.fact 50 rfl)
theorem Md.maxLanes (m : Md K mg) : ∃ t, mg "MAX_LANES" = some (.int 6 t) := m.int _ _ (m.c.fact 51 rfl)
theorem Md.maxCars (m : Md K mg) : ∃ t, mg "MAX_CARS" = some (.int 40 t) := m.int _ _ (m.c.fact 52 rfl)
theorem Md.arrival (m : Md K mg) : ∃ t, mg "ARRIVAL" = some (.str "a" t) := m.str _ _ (m.c.fact 53 rfl)
theorem Md.passing (m : Md K mg) : ∃ t, mg "PASSING" = some (.str "p" t) := m.str _ _ (m.c.fact 54 rfl)
abbrev aCls (K : PySem.W.Frag) : Addr := He.ga K "Arrows"
theorem Md.cls (m : Md K mg) : Cls K (aCls K) := He.cls_ok (m.c.fact 55 rfl)
theorem Md.mkr (m : Md K mg) : Mk K (aCls K) (He.ma K (aCls K) "__init__") := He.mkr_ok (m.c.fact 56 rfl)
theorem Md.m_rings (m : Md K mg) : Meth K (aCls K) "rings" (He.ma K (aCls K) "rings") := He.meth_ok (m.c.fact 57 rfl)
theorem Md.m_each_ring (m : Md K mg) : Meth K (aCls K) "each_ring" (He.ma K (aCls K) "each_ring") := He.meth_ok (m.c.fact 58 rfl)
theorem Md.m_first_ring (m : Md K mg) : Meth K (aCls K) "first_ring" (He.ma K (aCls K) "first_ring") := He.meth_ok (m.c.fact 59 rfl)
theorem Md.m_longest_from (m : Md K mg) : Meth K (aCls K) "longest_from" (He.ma K (aCls K) "longest_from") := He.meth_ok (m.c.fact 60 rfl)
theorem Md.m_all_longest (m : Md K mg) : Meth K (aCls K) "all_longest" (He.ma K (aCls K) "all_longest") := He.meth_ok (m.c.fact 61 rfl)
theorem Md.noLane (m : Md K mg) : NoAttr K (aCls K) "lane" := He.noat_ok (m.c.fact 62 rfl)
theorem Md.noRows (m : Md K mg) : NoAttr K (aCls K) "rows" := He.noat_ok (m.c.fact 63 rfl)
noncomputable def Md.d_is_integer (m : Md K mg) : FuncData := (m.c.def_ 0 (d := dTop "is_integer" 12) rfl).choose
theorem Md.F_is_integer (m : Md K mg) : FunD K "is_integer" "is_integer" (defArgs (topSt 12)) (defBody (topSt 12)) (defScope (topSt 12)) [] [] (He.ga K "is_integer") m.d_is_integer := (m.c.def_ 0 (d := dTop "is_integer" 12) rfl).choose_spec
theorem Md.b_is_integer (m : Md K mg) : Binds K m.d_is_integer ["value", "low", "high"] [] := m.F_is_integer.bindsN fun _ _ _ _ _ _ us hl => match us, hl with | [_, _, _], _ => rfl
noncomputable def Md.d_is_preference (m : Md K mg) : FuncData := (m.c.def_ 1 (d := dTop "is_preference" 13) rfl).choose
theorem Md.F_is_preference (m : Md K mg) : FunD K "is_preference" "is_preference" (defArgs (topSt 13)) (defBody (topSt 13)) (defScope (topSt 13)) [] [] (He.ga K "is_preference") m.d_is_preference := (m.c.def_ 1 (d := dTop "is_preference" 13) rfl).choose_spec
theorem Md.b_is_preference (m : Md K mg) : Binds K m.d_is_preference ["value", "many"] [] := m.F_is_preference.bindsN fun _ _ _ _ _ _ us hl => match us, hl with | [_, _], _ => rfl
noncomputable def Md.d_is_lane (m : Md K mg) : FuncData := (m.c.def_ 2 (d := dTop "is_lane" 14) rfl).choose
theorem Md.F_is_lane (m : Md K mg) : FunD K "is_lane" "is_lane" (defArgs (topSt 14)) (defBody (topSt 14)) (defScope (topSt 14)) [] [] (He.ga K "is_lane") m.d_is_lane := (m.c.def_ 2 (d := dTop "is_lane" 14) rfl).choose_spec
theorem Md.b_is_lane (m : Md K mg) : Binds K m.d_is_lane ["rule", "value"] [] := m.F_is_lane.bindsN fun _ _ _ _ _ _ us hl => match us, hl with | [_, _], _ => rfl
noncomputable def Md.d_check_preference (m : Md K mg) : FuncData := (m.c.def_ 3 (d := dTop "check_preference" 15) rfl).choose
theorem Md.F_check_preference (m : Md K mg) : FunD K "check_preference" "check_preference" (defArgs (topSt 15)) (defBody (topSt 15)) (defScope (topSt 15)) [] [] (He.ga K "check_preference") m.d_check_preference := (m.c.def_ 3 (d := dTop "check_preference" 15) rfl).choose_spec
theorem Md.b_check_preference (m : Md K mg) : Binds K m.d_check_preference ["value"] [] := m.F_check_preference.bindsN fun _ _ _ _ _ _ us hl => match us, hl with | [_], _ => rfl
noncomputable def Md.d_ranks_rule (m : Md K mg) : FuncData := (m.c.def_ 4 (d := dTop "ranks_rule" 16) rfl).choose
theorem Md.F_ranks_rule (m : Md K mg) : FunD K "ranks_rule" "ranks_rule" (defArgs (topSt 16)) (defBody (topSt 16)) (defScope (topSt 16)) [] [] (He.ga K "ranks_rule") m.d_ranks_rule := (m.c.def_ 4 (d := dTop "ranks_rule" 16) rfl).choose_spec
noncomputable def Md.d_polite_rule (m : Md K mg) : FuncData := (m.c.def_ 5 (d := dTop "polite_rule" 17) rfl).choose
theorem Md.F_polite_rule (m : Md K mg) : FunD K "polite_rule" "polite_rule" (defArgs (topSt 17)) (defBody (topSt 17)) (defScope (topSt 17)) [] [] (He.ga K "polite_rule") m.d_polite_rule := (m.c.def_ 5 (d := dTop "polite_rule" 17) rfl).choose_spec
noncomputable def Md.d_turns_rule (m : Md K mg) : FuncData := (m.c.def_ 6 (d := dTop "turns_rule" 18) rfl).choose
theorem Md.F_turns_rule (m : Md K mg) : FunD K "turns_rule" "turns_rule" (defArgs (topSt 18)) (defBody (topSt 18)) (defScope (topSt 18)) [] [] (He.ga K "turns_rule") m.d_turns_rule := (m.c.def_ 6 (d := dTop "turns_rule" 18) rfl).choose_spec
theorem Md.b_turns_rule (m : Md K mg) : Binds K m.d_turns_rule ["count"] [] := m.F_turns_rule.bindsN fun _ _ _ _ _ _ us hl => match us, hl with | [_], _ => rfl
noncomputable def Md.d_preference_after (m : Md K mg) : FuncData := (m.c.def_ 7 (d := dTop "preference_after" 19) rfl).choose
theorem Md.F_preference_after (m : Md K mg) : FunD K "preference_after" "preference_after" (defArgs (topSt 19)) (defBody (topSt 19)) (defScope (topSt 19)) [] [] (He.ga K "preference_after") m.d_preference_after := (m.c.def_ 7 (d := dTop "preference_after" 19) rfl).choose_spec
theorem Md.b_preference_after (m : Md K mg) : Binds K m.d_preference_after ["rule", "last"] [] := m.F_preference_after.bindsN fun _ _ _ _ _ _ us hl => match us, hl with | [_, _], _ => rfl
noncomputable def Md.d_first_lane (m : Md K mg) : FuncData := (m.c.def_ 8 (d := dTop "first_lane" 20) rfl).choose
theorem Md.F_first_lane (m : Md K mg) : FunD K "first_lane" "first_lane" (defArgs (topSt 20)) (defBody (topSt 20)) (defScope (topSt 20)) [] [] (He.ga K "first_lane") m.d_first_lane := (m.c.def_ 8 (d := dTop "first_lane" 20) rfl).choose_spec
noncomputable def Md.d_word_error (m : Md K mg) : FuncData := (m.c.def_ 9 (d := dTop "word_error" 21) rfl).choose
theorem Md.F_word_error (m : Md K mg) : FunD K "word_error" "word_error" (defArgs (topSt 21)) (defBody (topSt 21)) (defScope (topSt 21)) [] [] (He.ga K "word_error") m.d_word_error := (m.c.def_ 9 (d := dTop "word_error" 21) rfl).choose_spec
theorem Md.b_word_error (m : Md K mg) : Binds K m.d_word_error ["row", "value"] [] := m.F_word_error.bindsN fun _ _ _ _ _ _ us hl => match us, hl with | [_, _], _ => rfl
noncomputable def Md.d_first_car (m : Md K mg) : FuncData := (m.c.def_ 10 (d := dTop "first_car" 22) rfl).choose
theorem Md.F_first_car (m : Md K mg) : FunD K "first_car" "first_car" (defArgs (topSt 22)) (defBody (topSt 22)) (defScope (topSt 22)) [] [] (He.ga K "first_car") m.d_first_car := (m.c.def_ 10 (d := dTop "first_car" 22) rfl).choose_spec
theorem Md.b_first_car (m : Md K mg) : Binds K m.d_first_car ["rule", "row", "last", "waiting"] [] := m.F_first_car.bindsN fun _ _ _ _ _ _ us hl => match us, hl with | [_, _, _, _], _ => rfl
noncomputable def Md.d_steps_of (m : Md K mg) : FuncData := (m.c.def_ 11 (d := dTop "steps_of" 23) rfl).choose
theorem Md.F_steps_of (m : Md K mg) : FunD K "steps_of" "steps_of" (defArgs (topSt 23)) (defBody (topSt 23)) (defScope (topSt 23)) [] [] (He.ga K "steps_of") m.d_steps_of := (m.c.def_ 11 (d := dTop "steps_of" 23) rfl).choose_spec
theorem Md.b_steps_of (m : Md K mg) : Binds K m.d_steps_of ["rule", "row", "word"] [] := m.F_steps_of.bindsN fun _ _ _ _ _ _ us hl => match us, hl with | [_, _, _], _ => rfl
noncomputable def Md.d_check_word (m : Md K mg) : FuncData := (m.c.def_ 12 (d := dTop "check_word" 24) rfl).choose
theorem Md.F_check_word (m : Md K mg) : FunD K "check_word" "check_word" (defArgs (topSt 24)) (defBody (topSt 24)) (defScope (topSt 24)) [] [] (He.ga K "check_word") m.d_check_word := (m.c.def_ 12 (d := dTop "check_word" 24) rfl).choose_spec
theorem Md.b_check_word (m : Md K mg) : Binds K m.d_check_word ["row", "value"] [] := m.F_check_word.bindsN fun _ _ _ _ _ _ us hl => match us, hl with | [_, _], _ => rfl
noncomputable def Md.d_check_lane (m : Md K mg) : FuncData := (m.c.def_ 13 (d := dTop "check_lane" 26) rfl).choose
theorem Md.F_check_lane (m : Md K mg) : FunD K "check_lane" "check_lane" (defArgs (topSt 26)) (defBody (topSt 26)) (defScope (topSt 26)) [] [] (He.ga K "check_lane") m.d_check_lane := (m.c.def_ 13 (d := dTop "check_lane" 26) rfl).choose_spec
theorem Md.b_check_lane (m : Md K mg) : Binds K m.d_check_lane ["rule", "lane"] [] := m.F_check_lane.bindsN fun _ _ _ _ _ _ us hl => match us, hl with | [_, _], _ => rfl
noncomputable def Md.d_check_last (m : Md K mg) : FuncData := (m.c.def_ 14 (d := dTop "check_last" 27) rfl).choose
theorem Md.F_check_last (m : Md K mg) : FunD K "check_last" "check_last" (defArgs (topSt 27)) (defBody (topSt 27)) (defScope (topSt 27)) [] [] (He.ga K "check_last") m.d_check_last := (m.c.def_ 14 (d := dTop "check_last" 27) rfl).choose_spec
theorem Md.b_check_last (m : Md K mg) : Binds K m.d_check_last ["rule", "last"] [] := m.F_check_last.bindsN fun _ _ _ _ _ _ us hl => match us, hl with | [_, _], _ => rfl
noncomputable def Md.d_spot_of (m : Md K mg) : FuncData := (m.c.def_ 15 (d := dTop "spot_of" 28) rfl).choose
theorem Md.F_spot_of (m : Md K mg) : FunD K "spot_of" "spot_of" (defArgs (topSt 28)) (defBody (topSt 28)) (defScope (topSt 28)) [] [] (He.ga K "spot_of") m.d_spot_of := (m.c.def_ 15 (d := dTop "spot_of" 28) rfl).choose_spec
theorem Md.b_spot_of (m : Md K mg) : Binds K m.d_spot_of ["last"] [] := m.F_spot_of.bindsN fun _ _ _ _ _ _ us hl => match us, hl with | [_], _ => rfl
noncomputable def Md.d_lanes_ahead (m : Md K mg) : FuncData := (m.c.def_ 16 (d := dTop "lanes_ahead" 29) rfl).choose
theorem Md.F_lanes_ahead (m : Md K mg) : FunD K "lanes_ahead" "lanes_ahead" (defArgs (topSt 29)) (defBody (topSt 29)) (defScope (topSt 29)) [] [] (He.ga K "lanes_ahead") m.d_lanes_ahead := (m.c.def_ 16 (d := dTop "lanes_ahead" 29) rfl).choose_spec
theorem Md.b_lanes_ahead (m : Md K mg) : Binds K m.d_lanes_ahead ["preference", "lane"] [] := m.F_lanes_ahead.bindsN fun _ _ _ _ _ _ us hl => match us, hl with | [_, _], _ => rfl
noncomputable def Md.d_bound_of (m : Md K mg) : FuncData := (m.c.def_ 17 (d := dTop "bound_of" 31) rfl).choose
theorem Md.F_bound_of (m : Md K mg) : FunD K "bound_of" "bound_of" (defArgs (topSt 31)) (defBody (topSt 31)) (defScope (topSt 31)) [] [] (He.ga K "bound_of") m.d_bound_of := (m.c.def_ 17 (d := dTop "bound_of" 31) rfl).choose_spec
theorem Md.b_bound_of (m : Md K mg) : Binds K m.d_bound_of ["rule", "lane"] [] := m.F_bound_of.bindsN fun _ _ _ _ _ _ us hl => match us, hl with | [_, _], _ => rfl
noncomputable def Md.d_lane_bounds (m : Md K mg) : FuncData := (m.c.def_ 18 (d := dTop "lane_bounds" 32) rfl).choose
theorem Md.F_lane_bounds (m : Md K mg) : FunD K "lane_bounds" "lane_bounds" (defArgs (topSt 32)) (defBody (topSt 32)) (defScope (topSt 32)) [] [] (He.ga K "lane_bounds") m.d_lane_bounds := (m.c.def_ 18 (d := dTop "lane_bounds" 32) rfl).choose_spec
theorem Md.b_lane_bounds (m : Md K mg) : Binds K m.d_lane_bounds ["rule"] [] := m.F_lane_bounds.bindsN fun _ _ _ _ _ _ us hl => match us, hl with | [_], _ => rfl
noncomputable def Md.d_starving (m : Md K mg) : FuncData := (m.c.def_ 19 (d := dTop "starving" 33) rfl).choose
theorem Md.F_starving (m : Md K mg) : FunD K "starving" "starving" (defArgs (topSt 33)) (defBody (topSt 33)) (defScope (topSt 33)) [] [] (He.ga K "starving") m.d_starving := (m.c.def_ 19 (d := dTop "starving" 33) rfl).choose_spec
theorem Md.b_starving (m : Md K mg) : Binds K m.d_starving ["rule"] [] := m.F_starving.bindsN fun _ _ _ _ _ _ us hl => match us, hl with | [_], _ => rfl
noncomputable def Md.d_favoured (m : Md K mg) : FuncData := (m.c.def_ 20 (d := dTop "favoured" 34) rfl).choose
theorem Md.F_favoured (m : Md K mg) : FunD K "favoured" "favoured" (defArgs (topSt 34)) (defBody (topSt 34)) (defScope (topSt 34)) [] [] (He.ga K "favoured") m.d_favoured := (m.c.def_ 20 (d := dTop "favoured" 34) rfl).choose_spec
theorem Md.b_favoured (m : Md K mg) : Binds K m.d_favoured ["rule", "lane", "last"] [] := m.F_favoured.bindsN fun _ _ _ _ _ _ us hl => match us, hl with | [_, _, _], _ => rfl
noncomputable def Md.d_waits (m : Md K mg) : FuncData := (m.c.def_ 21 (d := dTop "waits" 35) rfl).choose
theorem Md.F_waits (m : Md K mg) : FunD K "waits" "waits" (defArgs (topSt 35)) (defBody (topSt 35)) (defScope (topSt 35)) [] [] (He.ga K "waits") m.d_waits := (m.c.def_ 21 (d := dTop "waits" 35) rfl).choose_spec
theorem Md.b_waits (m : Md K mg) : Binds K m.d_waits ["rule", "row", "word"] [] := m.F_waits.bindsN fun _ _ _ _ _ _ us hl => match us, hl with | [_, _, _], _ => rfl
noncomputable def Md.d_passed_over (m : Md K mg) : FuncData := (m.c.def_ 22 (d := dTop "passed_over" 36) rfl).choose
theorem Md.F_passed_over (m : Md K mg) : FunD K "passed_over" "passed_over" (defArgs (topSt 36)) (defBody (topSt 36)) (defScope (topSt 36)) [] [] (He.ga K "passed_over") m.d_passed_over := (m.c.def_ 22 (d := dTop "passed_over" 36) rfl).choose_spec
theorem Md.b_passed_over (m : Md K mg) : Binds K m.d_passed_over ["rule", "row", "word"] [] := m.F_passed_over.bindsN fun _ _ _ _ _ _ us hl => match us, hl with | [_, _, _], _ => rfl
noncomputable def Md.d_long_run (m : Md K mg) : FuncData := (m.c.def_ 23 (d := dTop "long_run" 37) rfl).choose
theorem Md.F_long_run (m : Md K mg) : FunD K "long_run" "long_run" (defArgs (topSt 37)) (defBody (topSt 37)) (defScope (topSt 37)) [] [] (He.ga K "long_run") m.d_long_run := (m.c.def_ 23 (d := dTop "long_run" 37) rfl).choose_spec
theorem Md.b_long_run (m : Md K mg) : Binds K m.d_long_run ["arrows", "count"] [] := m.F_long_run.bindsN fun _ _ _ _ _ _ us hl => match us, hl with | [_, _], _ => rfl
noncomputable def Md.d_worst_day (m : Md K mg) : FuncData := (m.c.def_ 24 (d := dTop "worst_day" 38) rfl).choose
theorem Md.F_worst_day (m : Md K mg) : FunD K "worst_day" "worst_day" (defArgs (topSt 38)) (defBody (topSt 38)) (defScope (topSt 38)) [] [] (He.ga K "worst_day") m.d_worst_day := (m.c.def_ 24 (d := dTop "worst_day" 38) rfl).choose_spec
theorem Md.b_worst_day (m : Md K mg) : Binds K m.d_worst_day ["rule", "lane", "count"] [] := m.F_worst_day.bindsN fun _ _ _ _ _ _ us hl => match us, hl with | [_, _, _], _ => rfl
noncomputable def Md.d__law_loom (m : Md K mg) : FuncData := (m.c.def_ 25 (d := dTop "_law_loom" 40) rfl).choose
theorem Md.F__law_loom (m : Md K mg) : FunD K "_law_loom" "_law_loom" (defArgs (topSt 40)) (defBody (topSt 40)) (defScope (topSt 40)) [] [] (He.ga K "_law_loom") m.d__law_loom := (m.c.def_ 25 (d := dTop "_law_loom" 40) rfl).choose_spec
theorem Md.b__law_loom (m : Md K mg) : Binds K m.d__law_loom ["_law_script"] [] := m.F__law_loom.bindsN fun _ _ _ _ _ _ us hl => match us, hl with | [_], _ => rfl
noncomputable def Md.d__law_weave (m : Md K mg) : FuncData := (m.c.def_ 26 (d := dTop "_law_weave" 41) rfl).choose
theorem Md.F__law_weave (m : Md K mg) : FunD K "_law_weave" "_law_weave" (defArgs (topSt 41)) (defBody (topSt 41)) (defScope (topSt 41)) [] [] (He.ga K "_law_weave") m.d__law_weave := (m.c.def_ 26 (d := dTop "_law_weave" 41) rfl).choose_spec
theorem Md.b__law_weave (m : Md K mg) : Binds K m.d__law_weave ["_law_loom_here", "_law_many"] [] := m.F__law_weave.bindsN fun _ _ _ _ _ _ us hl => match us, hl with | [_, _], _ => rfl
noncomputable def Md.d__law_mixed (m : Md K mg) : FuncData := (m.c.def_ 27 (d := dTop "_law_mixed" 42) rfl).choose
theorem Md.F__law_mixed (m : Md K mg) : FunD K "_law_mixed" "_law_mixed" (defArgs (topSt 42)) (defBody (topSt 42)) (defScope (topSt 42)) [] [] (He.ga K "_law_mixed") m.d__law_mixed := (m.c.def_ 27 (d := dTop "_law_mixed" 42) rfl).choose_spec
theorem Md.b__law_mixed (m : Md K mg) : Binds K m.d__law_mixed ["_law_loom_here", "_law_many"] [] := m.F__law_mixed.bindsN fun _ _ _ _ _ _ us hl => match us, hl with | [_, _], _ => rfl
noncomputable def Md.d__law_rule (m : Md K mg) : FuncData := (m.c.def_ 28 (d := dTop "_law_rule" 43) rfl).choose
theorem Md.F__law_rule (m : Md K mg) : FunD K "_law_rule" "_law_rule" (defArgs (topSt 43)) (defBody (topSt 43)) (defScope (topSt 43)) [] [] (He.ga K "_law_rule") m.d__law_rule := (m.c.def_ 28 (d := dTop "_law_rule" 43) rfl).choose_spec
theorem Md.b__law_rule (m : Md K mg) : Binds K m.d__law_rule ["_law_loom_here", "_law_top"] [] := m.F__law_rule.bindsN fun _ _ _ _ _ _ us hl => match us, hl with | [_, _], _ => rfl
noncomputable def Md.d__law_row (m : Md K mg) : FuncData := (m.c.def_ 29 (d := dTop "_law_row" 44) rfl).choose
theorem Md.F__law_row (m : Md K mg) : FunD K "_law_row" "_law_row" (defArgs (topSt 44)) (defBody (topSt 44)) (defScope (topSt 44)) [] [] (He.ga K "_law_row") m.d__law_row := (m.c.def_ 29 (d := dTop "_law_row" 44) rfl).choose_spec
theorem Md.b__law_row (m : Md K mg) : Binds K m.d__law_row ["_law_loom_here", "_law_many", "_law_size"] [] := m.F__law_row.bindsN fun _ _ _ _ _ _ us hl => match us, hl with | [_, _, _], _ => rfl
noncomputable def Md.d__law_word (m : Md K mg) : FuncData := (m.c.def_ 30 (d := dTop "_law_word" 45) rfl).choose
theorem Md.F__law_word (m : Md K mg) : FunD K "_law_word" "_law_word" (defArgs (topSt 45)) (defBody (topSt 45)) (defScope (topSt 45)) [] [] (He.ga K "_law_word") m.d__law_word := (m.c.def_ 30 (d := dTop "_law_word" 45) rfl).choose_spec
theorem Md.b__law_word (m : Md K mg) : Binds K m.d__law_word ["_law_loom_here", "_law_size", "_law_to_end"] [] := m.F__law_word.bindsN fun _ _ _ _ _ _ us hl => match us, hl with | [_, _, _], _ => rfl
noncomputable def Md.d__law_days_right (m : Md K mg) : FuncData := (m.c.def_ 31 (d := dTop "_law_days_right" 46) rfl).choose
theorem Md.F__law_days_right (m : Md K mg) : FunD K "_law_days_right" "_law_days_right" (defArgs (topSt 46)) (defBody (topSt 46)) (defScope (topSt 46)) [] [] (He.ga K "_law_days_right") m.d__law_days_right := (m.c.def_ 31 (d := dTop "_law_days_right" 46) rfl).choose_spec
theorem Md.b__law_days_right (m : Md K mg) : Binds K m.d__law_days_right ["_law_loom_here", "_law_rule_here"] [] := m.F__law_days_right.bindsN fun _ _ _ _ _ _ us hl => match us, hl with | [_, _], _ => rfl
noncomputable def Md.d__law_favoured_right (m : Md K mg) : FuncData := (m.c.def_ 32 (d := dTop "_law_favoured_right" 47) rfl).choose
theorem Md.F__law_favoured_right (m : Md K mg) : FunD K "_law_favoured_right" "_law_favoured_right" (defArgs (topSt 47)) (defBody (topSt 47)) (defScope (topSt 47)) [] [] (He.ga K "_law_favoured_right") m.d__law_favoured_right := (m.c.def_ 32 (d := dTop "_law_favoured_right" 47) rfl).choose_spec
theorem Md.b__law_favoured_right (m : Md K mg) : Binds K m.d__law_favoured_right ["_law_loom_here", "_law_rule_here"] [] := m.F__law_favoured_right.bindsN fun _ _ _ _ _ _ us hl => match us, hl with | [_, _], _ => rfl
noncomputable def Md.d__law_ranked (m : Md K mg) : FuncData := (m.c.def_ 33 (d := dTop "_law_ranked" 48) rfl).choose
theorem Md.F__law_ranked (m : Md K mg) : FunD K "_law_ranked" "_law_ranked" (defArgs (topSt 48)) (defBody (topSt 48)) (defScope (topSt 48)) [] [] (He.ga K "_law_ranked") m.d__law_ranked := (m.c.def_ 33 (d := dTop "_law_ranked" 48) rfl).choose_spec
theorem Md.b__law_ranked (m : Md K mg) : Binds K m.d__law_ranked ["_law_lanes"] [] := m.F__law_ranked.bindsN fun _ _ _ _ _ _ us hl => match us, hl with | [_], _ => rfl
noncomputable def Md.d__law_named_right (m : Md K mg) : FuncData := (m.c.def_ 34 (d := dTop "_law_named_right" 49) rfl).choose
theorem Md.F__law_named_right (m : Md K mg) : FunD K "_law_named_right" "_law_named_right" (defArgs (topSt 49)) (defBody (topSt 49)) (defScope (topSt 49)) [] [] (He.ga K "_law_named_right") m.d__law_named_right := (m.c.def_ 34 (d := dTop "_law_named_right" 49) rfl).choose_spec
theorem Md.b__law_named_right (m : Md K mg) : Binds K m.d__law_named_right ["_law_lanes"] [] := m.F__law_named_right.bindsN fun _ _ _ _ _ _ us hl => match us, hl with | [_], _ => rfl
noncomputable def Md.d_law (m : Md K mg) : FuncData := (m.c.def_ 35 (d := dTop "law" 50) rfl).choose
theorem Md.F_law (m : Md K mg) : FunD K "law" "law" (defArgs (topSt 50)) (defBody (topSt 50)) (defScope (topSt 50)) [] [] (He.ga K "law") m.d_law := (m.c.def_ 35 (d := dTop "law" 50) rfl).choose_spec
theorem Md.b_law (m : Md K mg) : Binds K m.d_law ["_law_script"] [] := m.F_law.bindsN fun _ _ _ _ _ _ us hl => match us, hl with | [_], _ => rfl
noncomputable def Md.e_init (m : Md K mg) : FuncData := (m.c.def_ 36 (d := dMet "__init__" "Arrows.__init__" 0) rfl).choose
theorem Md.E_init (m : Md K mg) : FunD K "__init__" "Arrows.__init__" (defArgs (inCls 0 (topSt 30))) (defBody (inCls 0 (topSt 30))) (defScope (inCls 0 (topSt 30))) [] [] (He.ma K (aCls K) "__init__") m.e_init := (m.c.def_ 36 (d := dMet "__init__" "Arrows.__init__" 0) rfl).choose_spec
theorem Md.eb_init (m : Md K mg) : Binds K m.e_init ["self", "rule", "lane"] [] := m.E_init.bindsN fun _ _ _ _ _ _ us hl => match us, hl with | [_, _, _], _ => rfl
noncomputable def Md.e_rings (m : Md K mg) : FuncData := (m.c.def_ 37 (d := dMet "rings" "Arrows.rings" 1) rfl).choose
theorem Md.E_rings (m : Md K mg) : FunD K "rings" "Arrows.rings" (defArgs (inCls 1 (topSt 30))) (defBody (inCls 1 (topSt 30))) (defScope (inCls 1 (topSt 30))) [] [] (He.ma K (aCls K) "rings") m.e_rings := (m.c.def_ 37 (d := dMet "rings" "Arrows.rings" 1) rfl).choose_spec
theorem Md.eb_rings (m : Md K mg) : Binds K m.e_rings ["self", "path"] [] := m.E_rings.bindsN fun _ _ _ _ _ _ us hl => match us, hl with | [_, _], _ => rfl
noncomputable def Md.e_each_ring (m : Md K mg) : FuncData := (m.c.def_ 38 (d := dMet "each_ring" "Arrows.each_ring" 2) rfl).choose
theorem Md.E_each_ring (m : Md K mg) : FunD K "each_ring" "Arrows.each_ring" (defArgs (inCls 2 (topSt 30))) (defBody (inCls 2 (topSt 30))) (defScope (inCls 2 (topSt 30))) [] [] (He.ma K (aCls K) "each_ring") m.e_each_ring := (m.c.def_ 38 (d := dMet "each_ring" "Arrows.each_ring" 2) rfl).choose_spec
theorem Md.eb_each_ring (m : Md K mg) : Binds K m.e_each_ring ["self"] [] := m.E_each_ring.bindsN fun _ _ _ _ _ _ us hl => match us, hl with | [_], _ => rfl
noncomputable def Md.e_first_ring (m : Md K mg) : FuncData := (m.c.def_ 39 (d := dMet "first_ring" "Arrows.first_ring" 3) rfl).choose
theorem Md.E_first_ring (m : Md K mg) : FunD K "first_ring" "Arrows.first_ring" (defArgs (inCls 3 (topSt 30))) (defBody (inCls 3 (topSt 30))) (defScope (inCls 3 (topSt 30))) [] [] (He.ma K (aCls K) "first_ring") m.e_first_ring := (m.c.def_ 39 (d := dMet "first_ring" "Arrows.first_ring" 3) rfl).choose_spec
theorem Md.eb_first_ring (m : Md K mg) : Binds K m.e_first_ring ["self"] [] := m.E_first_ring.bindsN fun _ _ _ _ _ _ us hl => match us, hl with | [_], _ => rfl
noncomputable def Md.e_longest_from (m : Md K mg) : FuncData := (m.c.def_ 40 (d := dMet "longest_from" "Arrows.longest_from" 4) rfl).choose
theorem Md.E_longest_from (m : Md K mg) : FunD K "longest_from" "Arrows.longest_from" (defArgs (inCls 4 (topSt 30))) (defBody (inCls 4 (topSt 30))) (defScope (inCls 4 (topSt 30))) [] [] (He.ma K (aCls K) "longest_from") m.e_longest_from := (m.c.def_ 40 (d := dMet "longest_from" "Arrows.longest_from" 4) rfl).choose_spec
theorem Md.eb_longest_from (m : Md K mg) : Binds K m.e_longest_from ["self", "spot"] [] := m.E_longest_from.bindsN fun _ _ _ _ _ _ us hl => match us, hl with | [_, _], _ => rfl
noncomputable def Md.e_all_longest (m : Md K mg) : FuncData := (m.c.def_ 41 (d := dMet "all_longest" "Arrows.all_longest" 5) rfl).choose
theorem Md.E_all_longest (m : Md K mg) : FunD K "all_longest" "Arrows.all_longest" (defArgs (inCls 5 (topSt 30))) (defBody (inCls 5 (topSt 30))) (defScope (inCls 5 (topSt 30))) [] [] (He.ma K (aCls K) "all_longest") m.e_all_longest := (m.c.def_ 41 (d := dMet "all_longest" "Arrows.all_longest" 5) rfl).choose_spec
theorem Md.eb_all_longest (m : Md K mg) : Binds K m.e_all_longest ["self"] [] := m.E_all_longest.bindsN fun _ _ _ _ _ _ us hl => match us, hl with | [_], _ => rfl
end
end GG
/-! R3: tuples of which the object is known (their methods are called): displays, tuple(list), t + u, tuple(range), the star parameter; a tuple's method. -/
namespace GG
open PySem
open PySem.Spec
open PyProof.Rows
open L2
open RR
open StX

section
variable {X : Cx} {es : List Expr} {t : TA} {pos p : Pos} {a e : Expr} {ta : TE}
abbrev tupOf (us : List Value) : Obj := { cls := .type "tuple", data := .seq us.toArray }
/-- a new tuple -/
theorem lay_f {pins : List (Addr × Obj)} {σ : L2.St} {H : Hp} {s : Shared} {xs : List V} {us : List Value} (I : Inv X pins σ H s) (r : Vals xs us) (hz : xs.length ≤ sizeLine) {Q : VK} (q : ∀ p o, H p = none → o.dict = none → Q (.ref p) (upd H p (.frz o (.tup xs)))) :
    EP X pins σ Q (.ref s.heap.objs.size) { s with heap := s.heap.push (tupOf us) } := by
  have at_ : (s.heap.push (tupOf us)).get? s.heap.objs.size = some (tupOf us) := Heap.get?_push_size _ rfl
  exact ⟨.ref s.heap.objs.size, upd H s.heap.objs.size (.frz (tupOf us) (.tup xs)), I.laid (t' := s.toks) (fun b u e => Heap.get?_push_of_some _ e) (Nat.le_refl _) ⟨at_, hz, us, r, ⟨_, at_, rfl, _, rfl⟩⟩, rfl, q _ _ (I.hok.fresh (Nat.le_refl _)) rfl⟩
def tTupF (t : TA) : TE := fun σ H Q => t σ H fun vs H1 => vs.length ≤ sizeLine ∧ ∀ p o, H1 p = none → o.dict = none → Q (.ref p) (upd H1 p (.frz o (.tup vs)))
theorem pe_tupF {x1 : Nat} (h : PA X es t) : PE X (.Tuple es x1 pos) (tTupF t) := by
  refine ⟨fun pins s σ H Q I hq => ?_⟩
  exact wpAny_Tuple_spliced (thn (h.run pos pins s σ H _ I hq) fun us s1 ⟨xs, H1, I1, r, z, q⟩ => ⟨by rw [← r.length]; exact z, lay_f I1 r z q⟩)
/-- tuple(list): a new one; tuple(tuple): itself -/
def kTupF (K : PySem.W.Frag) (x : V) (H : Hp) (Q : VK) : Prop := ∃ p xs, x = .ref p ∧ SqL K H p xs ∧ ∀ q o, H q = none → o.dict = none → Q (.ref q) (upd H q (.frz o (.tup xs)))
theorem pe_tupleOfF (hg : Gl X "tuple") (hm : X.mg "tuple" = none) (ha : PE X a ta) (na : starEach [a] X.env = (false, eval a X.env) :: starEach [] X.env := by rfl) : PE X (.Call (.Name "tuple" p) [a] [] pos) (tThen ta (kTupF X.K)) := by
  refine ⟨fun pins s σ H Q I h => ?_⟩
  refine Call_ (ld_blt I hg hm boot_tuple (PyProof.Rows.callWith_type1 (one_arg ha I h (fun v s2 x H2 I2 r ⟨pp, xs, ex, hs, q⟩ => ?_) na) na))
  subst ex
  obtain rfl : v = .ref pp := r
  obtain ⟨its, rv, pl, hz⟩ := I2.list hs
  refine call_tuple_list pl.isList (fun h' hk => ?_) (by rw [List.size_toArray, ← rv.length]; exact hz)
  have I3 : Inv X pins σ H2 { s2 with heap := h' } := I2.kept (t' := s2.toks) hk
  exact lay_f I3 rv hz q
/-- t + u, the object of a new one known -/
def rCatF (K : PySem.W.Frag) : L2.R2 := fun x y H Q => ∃ a b xs ys, x = .ref a ∧ y = .ref b ∧ SqT K H a xs ∧ SqT K H b ys ∧ xs.length + ys.length ≤ sizeLine ∧
  (xs = [] → Q (.ref b) H) ∧ (xs ≠ [] → ys = [] → Q (.ref a) H) ∧ (xs ≠ [] → ys ≠ [] → ∀ p o, H p = none → o.dict = none → Q (.ref p) (upd H p (.frz o (.tup (xs ++ ys)))))
theorem op_catF : OpR X (binaryOp .Add) (rCatF X.K) := by
  intro pins s σ H x y v u Q I rx ry h
  obtain ⟨a, b, xs, ys, rfl, rfl, ha, hb, hz, q0, q1, q2⟩ := h
  cases rx
  cases ry
  obtain ⟨its, r1, p1, z1⟩ := I.tuple ha
  obtain ⟨its2, r2, p2, z2⟩ := I.tuple hb
  by_cases hx : xs = []
  · subst hx
    cases r1
    exact cat_tup0 p1 p2 ⟨.ref b, H, I, rfl, q0 rfl⟩
  · refine HT.cat_tup p1 p2 (fun z => hx (r1.nil_iff.mp z)) (fun z => ⟨.ref a, H, I, rfl, q1 hx (r2.nil_iff.mp z)⟩) (fun z => ?_) (by rw [← r1.length, ← r2.length]; exact hz)
    exact lay_f I (r1.append r2) (by rw [List.length_append]; exact hz) (q2 hx fun w => z (r2.nil_iff.mpr w))
/-- tuple(range(..)) -/
def tTupRgF (te : L2.St → Hp → (Int → Int → Hp → Prop) → Prop) : TE := fun σ H Q => te σ H fun a b H1 => RgOk a b ∧ ∀ q o, H1 q = none → o.dict = none → Q (.ref q) (upd H1 q (.frz o (.tup (rgV a b))))
theorem pe_tupRgF {te : L2.St → Hp → (Int → Int → Hp → Prop) → Prop} (hc : X.calm = true) (hg : Gl X "tuple") (hm : X.mg "tuple" = none) (he : PRg X e te) (na : starEach [e] X.env = (false, eval e X.env) :: starEach [] X.env := by rfl) :
    PE X (.Call (.Name "tuple" p) [e] [] pos) (tTupRgF te) := by
  refine ⟨fun pins s σ H Q I h => ?_⟩
  refine Call_ (ld_blt I hg hm boot_tuple (PyProof.Rows.callWith_type1 (args_cons (thn (he pins s σ H _ I h) fun x s1 ⟨r, a, b, t, u, v, H1, ex, hr, I1, ok, q⟩ => args_nil ?_) na) na))
  subst ex
  obtain ⟨b1, b2, b3, b4, b5⟩ := ok
  refine call_tuple_range (n := (b - a).toNat) (I1.ok.hd hc) hr (small_one b1 b2 b3 b4) (rangeSize_nat a b) b5 fun h' tk acc hk hi => ?_
  have I2 : Inv X pins σ H1 { s1 with heap := h', toks := tk } := I1.kept hk
  have z := lay_f (us := acc.toList) I2 (vals_rg hi) (by rw [rgV_length, sizeLine_eq]; omega) q
  have ea : tupOf acc.toList = { cls := .type "tuple", data := .seq acc } := by unfold tupOf; rw [Array.toArray_toList]
  rw [ea] at z
  exact z

/-! ### a tuple's method -/
def tTM (r : V → List V → Hp → VK → Prop) (to : TE) (t : TA) : TE := fun σ H Q => to σ H fun x H1 => (∃ a o xs, x = .ref a ∧ H1 a = some (.frz o (.tup xs)) ∧ o.dict = none) ∧ t σ H1 fun vs H2 => r x vs H2 Q
theorem pe_tm {o : Expr} {name : Str} {apos cpos : Pos} {id : String} {r : V → List V → Hp → VK → Prop} {to : TE} (pa : PlainAttrs "tuple") (slot : Slot "tuple" name id) (hty : typeOf (.builtin id) = pure (.type "method_descriptor")) (hm : MtR X id r) (ho : PE X o to) (ha : PA X (e :: es) t)
    (hbase : attributeBase o name X.env (eval o X.env) = eval o X.env := by rfl)
    (hfew : ((backTo cpos (starEach (e :: es) X.env)).all (fun x => !x.1) && (backToKw cpos (keywordEach [] X.env)).all (fun x => x.1.isSome)
      && decide ((e :: es).length + ([] : List Keyword).length + (if ([] : List Keyword).isEmpty then 0 else 1) < 30)) = true := by rfl)
    (hline : (apos.endLine == cpos.line) = true := by rfl) (hs : starEach (e :: es) X.env = (false, eval e X.env) :: starEach es X.env := by rfl) (hplain : (backTo cpos (starEach es X.env)).any (·.1) = false := by rfl) :
    PE X (.Call (.Attribute o name apos) (e :: es) [] cpos) (tTM r to t) := by
  refine ⟨fun pins s σ H Q I h => wpAny_Call_method_late hbase hfew hline rfl (thn (ho.run pins s σ H _ I h) fun v s1 ⟨x, H1, I1, r1, ⟨a, ob, xs, ex, hx, hd⟩, q1⟩ => ?_)⟩
  subst ex
  obtain rfl : v = .ref a := r1
  obtain ⟨g1, _, its, _, g2⟩ := I1.hok a _ hx
  refine ⟨"tuple", id, pa, slot, hty, g2.typeIs, fun b eb => by cases eb; exact ⟨ob, g1, hd⟩, ?_⟩
  have hA := ha.run cpos pins s1 σ H1 _ I1 q1
  rw [hs] at hA ⊢
  refine Calls.callWith_builtin (by show (false || (backTo cpos (starEach es X.env)).any (·.1)) = false; rw [hplain] <;> rfl) (Calls.evalArgs_plain ?_)
  exact thn hA fun us s2 ⟨vs, H2, I2, r2, q2⟩ => hm pins s2 σ H2 (.ref a) vs (.ref a) us Q I2 (show RelV (.ref a) (.ref a) from rfl) r2 q2
end

/-! ### the star parameter -/
abbrev spStar (ps : List Str) (sp : Sp) : Sp := fun vs H Q E => ∃ ws rest, vs = ws ++ rest ∧ ws.length = ps.length ∧ rest.length ≤ sizeLine ∧ ∀ p o, H p = Option.none → o.dict = Option.none → sp (ws ++ [V.ref p]) (L2.upd H p (.frz o (.tup rest))) Q E
theorem starOk {P : Program} {w : World} {K : PySem.W.Frag} {mg : Str → Option Value} {base : Heap} {x q : Str} {pa : Arguments} {bd : List Stmt} {sc : Scope} {f : Addr} {fd : FuncData} {N ps : List Str} {pv : Str} {k : Nat} {sp : Sp} (F : FunD K x q pa bd sc [] [] f fd) (S : FnScope N (ps ++ [pv]) sc)
    (hb : ∀ (kV doc pm : Value) (an : Option Addr) (cdv ct : Value) (us rest : List Value), us.length = ps.length → bindArgs (PySem.W.fnOf x q pa bd sc .none kV doc pm an cdv ct) ⟨us ++ rest, []⟩ = (newTuple rest >>= fun t => pure (ps.zip us ++ [(pv, t)])))
    (hbody : ∀ (cdv : Value) (A : Around) (outer : List Env) (s : Shared) (H : Hp) (vs : List V) (Q : VK) (E : XK), Room k (A.deeper (envOfC q sc s.heap.objs.size f cdv)) → sp vs H Q E →
      ∃ t, PSs (cxOf CX0 P w K mg base N q sc f cdv A outer s H E) bd t ∧ t { nx := fun _ H' => Q .non H', rt := Q } (start N vs) H) : FnR P w K mg base CX0 (k + 1) f (spStar ps sp) := by
  obtain ⟨oc, od, dV, kV, doc, pm, an, cdv, ct, osl, rfl, lk, hcd, hD, _⟩ := F.ex
  obtain rfl : dV = .none := by
    rcases hD with ⟨_, z⟩ | ⟨z, _⟩
    · exact z
    · exact absurd rfl z
  intro A outer s H us vs Q E hr e0 r hsp
  obtain ⟨ws, rest, ev, hl, hz, hq⟩ := hsp
  subst ev
  obtain ⟨u1, u2, eu, r1, r2⟩ := vals_split r
  subst eu
  have fresh : H s.heap.objs.size = Option.none := e0.hok.fresh (Nat.le_refl _)
  have l1 : u1.length = ps.length := by rw [← r1.length]; exact hl
  have l2 : u2.length ≤ sizeLine := by rw [← r2.length]; exact hz
  refine run_bnd lk hcd S hr e0 (G := fun xs H2 => ∃ p o, H p = Option.none ∧ o.dict = Option.none ∧ xs = ws ++ [V.ref p] ∧ H2 = L2.upd H p (.frz o (.tup rest))) (fun A' Ex Q' h => ?_) fun s2 H2 xs ⟨p, o, hp, hd, ex, eH⟩ hr' => ?_
  · rw [hb kV doc pm an cdv ct u1 u2 l1]
    refine wpAny_bind (wpAny_newTuple (wpAny_pure ?_) l2)
    have at_ : (s.heap.push (tupOf u2)).get? s.heap.objs.size = some (tupOf u2) := Heap.get?_push_size _ rfl
    have new : ObjOk P w (L2.upd H s.heap.objs.size (.frz (tupOf u2) (.tup rest))) (s.heap.push (tupOf u2)) s.heap.objs.size (.frz (tupOf u2) (.tup rest)) := ⟨at_, hz, u2, r2, ⟨_, at_, rfl, _, rfl⟩⟩
    have un := un_laid (fs := frs outer) (s := s) (o := tupOf u2) (u := .frz (tupOf u2) (.tup rest)) fresh
    have z := h _ _ (ws ++ [V.ref s.heap.objs.size]) (u1 ++ [Value.ref s.heap.objs.size]) (env0_laid e0 new) un rfl (fun e s' z => z) (r1.append (.cons rfl .nil))
      (by rw [List.length_append, List.length_append, hl] <;> rfl) ⟨_, _, fresh, rfl, rfl, rfl⟩
    rw [List.zip_append l1.symm] at z
    exact z
  · subst ex eH
    exact hbody cdv A outer s2 _ _ Q E hr' (hq p o hp hd)
end GG
/-! D1: letters; the small defs. -/
namespace GG
open PySem
open PySem.Spec
open PyProof.Rows
open L2
open RR

/-! ### letters -/
abbrev nV (n : Nat) : V := .int (n : Int)
abbrev nVs (l : List Nat) : List V := l.map nV
theorem nVs_drop (l : List Nat) (k : Nat) : (nVs l).drop k = nVs (l.drop k) := List.map_drop.symm
theorem nVs_take (l : List Nat) (k : Nat) : (nVs l).take k = nVs (l.take k) := List.map_take.symm
theorem nVs_app (a b : List Nat) : nVs (a ++ b) = nVs a ++ nVs b := List.map_append
theorem nVs_int (l : List Nat) : nVs l = (l.map fun n : Nat => (n : Int)).map V.int := by rw [List.map_map] <;> rfl
/-- what was tracked stays as it was -/
def Ext (H H' : Hp) : Prop := ∀ b o, H b = some o → H' b = some o
theorem Ext.rfl {H : Hp} : Ext H H := fun _ _ e => e
theorem Ext.trans {H H1 H2 : Hp} (a : Ext H H1) (b : Ext H1 H2) : Ext H H2 := fun x o e => b x o (a x o e)
theorem Ext.upd {H : Hp} {p : Addr} {o : HO} (h : H p = none) : Ext H (L2.upd H p o) := fun b u e => by
  rw [upd_ne (fun z => by rw [z, h] at e; cases e)]; exact e
theorem Ext.put {H H1 : Hp} {p : Addr} {o : HO} (a : Ext H H1) (h : H1 p = none) : Ext H (L2.upd H1 p o) := a.trans (Ext.upd h)
/-- over an object that is new to the first heap -/
theorem Ext.set {H H1 : Hp} {p : Addr} {o : HO} (a : Ext H H1) (h : H p = none) : Ext H (L2.upd H1 p o) := fun b u e => by
  rw [upd_ne (fun z => by rw [z, h] at e; cases e)]; exact a b u e
theorem Ext.none {H H1 : Hp} {p : Addr} (a : Ext H H1) (h : H1 p = Option.none) : H p = Option.none := by
  cases e : H p with
  | none => rfl
  | some o => rw [a p o e] at h; cases h
/-- a tuple stands at a -/
abbrev Ta (H : Hp) (a : Addr) (xs : List V) : Prop := Rd H a (.tup xs)
theorem ta_ext {H H' : Hp} {a : Addr} {xs : List V} (t : Ta H a xs) (e : Ext H H') : Ta H' a xs := t.imp (e _ _) fun ⟨o, h⟩ => ⟨o, e _ _ h⟩
/-- a tuple of natural numbers -/
def Tn (H : Hp) (v : V) (l : List Nat) : Prop := ∃ a, v = .ref a ∧ Ta H a (nVs l)
theorem Tn.ext {H H' : Hp} {v : V} {l : List Nat} (t : Tn H v l) (e : Ext H H') : Tn H' v l := let ⟨a, h1, h2⟩ := t; ⟨a, h1, ta_ext h2 e⟩
/-- such a tuple, of which the object is known: a preference -/
def Pf (H : Hp) (v : V) (l : List Nat) : Prop := ∃ a o, v = .ref a ∧ H a = some (.frz o (.tup (nVs l))) ∧ o.dict = none
theorem Pf.ext {H H' : Hp} {v : V} {l : List Nat} (t : Pf H v l) (e : Ext H H') : Pf H' v l := let ⟨a, o, h1, h2, h3⟩ := t; ⟨a, o, h1, e _ _ h2, h3⟩
theorem Pf.tn {H : Hp} {v : V} {l : List Nat} (t : Pf H v l) : Tn H v l := let ⟨a, o, h1, h2, _⟩ := t; ⟨a, h1, .inr ⟨o, h2⟩⟩
/-- a tuple of preferences: a rule -/
def Tt (H : Hp) (v : V) (R : List (List Nat)) : Prop := ∃ a vs, v = .ref a ∧ Ta H a vs ∧ Paired (Pf H) vs R
theorem Tt.ext {H H' : Hp} {v : V} {R : List (List Nat)} (t : Tt H v R) (e : Ext H H') : Tt H' v R := let ⟨a, vs, h1, h2, h3⟩ := t; ⟨a, vs, h1, ta_ext h2 e, L2.Paired.mapP h3 fun _ _ k => k.ext e⟩
theorem paired_get {α β : Type} {F : α → β → Prop} : ∀ {l : List α} {m : List β} (i : Nat) (y : β), Paired F l m → m[i]? = some y → ∃ x, l[i]? = some x ∧ F x y
  | _, _, _, _, .nil, h => by simp at h
  | _, _, 0, _, .cons a b, h => by
    have e := Option.some.inj (show some _ = some _ from h)
    exact ⟨_, rfl, e ▸ a⟩
  | _, _, i + 1, y, .cons a b, h => paired_get i y b h

/-- all but lists stays -/
def ExtT (H H' : Hp) : Prop := ∀ b u, (∀ ys, u ≠ .lst ys) → H b = some u → H' b = some u
theorem Ext.tup {H H' : Hp} (e : Ext H H') : ExtT H H' := fun b u _ h => e b u h
theorem ExtT.trans {H H1 H2 : Hp} (a : ExtT H H1) (b : ExtT H1 H2) : ExtT H H2 := fun x o n e => b x o n (a x o n e)
theorem ExtT.put {H H1 : Hp} {p : Addr} {ys : List V} {o : HO} (a : ExtT H H1) (h : H1 p = some (.lst ys)) : ExtT H (L2.upd H1 p o) := fun b u n e => by
  have z := a b u n e
  rw [upd_ne (fun q => by rw [q, h] at z; exact n ys (Option.some.inj z).symm)]; exact z
theorem ExtT.new {H H1 : Hp} {p : Addr} {o : HO} (a : ExtT H H1) (h : H1 p = none) : ExtT H (L2.upd H1 p o) := a.trans (Ext.upd h).tup
theorem ta_extT {H H' : Hp} {a : Addr} {xs : List V} (t : Ta H a xs) (e : ExtT H H') : Ta H' a xs := t.imp (e _ _ fun _ z => by cases z) fun ⟨o, h⟩ => ⟨o, e _ _ (fun _ z => by cases z) h⟩
theorem Tn.extT {H H' : Hp} {v : V} {l : List Nat} (t : Tn H v l) (e : ExtT H H') : Tn H' v l := let ⟨a, h1, h2⟩ := t; ⟨a, h1, ta_extT h2 e⟩
theorem Pf.extT {H H' : Hp} {v : V} {l : List Nat} (t : Pf H v l) (e : ExtT H H') : Pf H' v l := let ⟨a, o, h1, h2, h3⟩ := t; ⟨a, o, h1, e _ _ (fun _ z => by cases z) h2, h3⟩
theorem Tt.extT {H H' : Hp} {v : V} {R : List (List Nat)} (t : Tt H v R) (e : ExtT H H') : Tt H' v R := let ⟨a, vs, h1, h2, h3⟩ := t; ⟨a, vs, h1, ta_extT h2 e, L2.Paired.mapP h3 fun _ _ k => k.extT e⟩
theorem ty_tup {K : PySem.W.Frag} {H : Hp} {a : Addr} {xs : List V} (t : Ta H a xs) : TyX K H (.ref a) (.type "tuple") := by
  rcases t with h | ⟨o, h⟩
  · exact .base (.tup h)
  · exact .fTuple h

/-! ### comprehensions: the list D grows, all else stays -/
def LcP (H1 : Hp) (D : Addr) (P : Nat → List V → Hp → Prop) (i : Nat) (H : Hp) : Prop := Ext H1 H ∧ ∃ acc, H D = some (.lst acc) ∧ acc.length ≤ i ∧ P i acc H
theorem LcP.start {H1 : Hp} {D : Addr} {P : Nat → List V → Hp → Prop} (new : H1 D = none) (p : P 0 [] (L2.upd H1 D (.lst []))) : LcP H1 D P 0 (L2.upd H1 D (.lst [])) := ⟨Ext.upd new, [], upd_same, Nat.zero_le _, p⟩
theorem LcP.put {H1 H H4 : Hp} {D : Addr} {P : Nat → List V → Hp → Prop} {i : Nat} {acc : List V} {y : V} (new : H1 D = none) (l : Ext H1 H) (hD : H D = some (.lst acc)) (hl : acc.length ≤ i) (hi : i < 1000) (e : Ext H H4)
    (p : P (i + 1) (acc ++ [y]) (L2.upd H4 D (.lst (acc ++ [y])))) : ∃ acc', H4 D = some (.lst acc') ∧ acc'.length < sizeLine ∧ LcP H1 D P (i + 1) (L2.upd H4 D (.lst (acc' ++ [y]))) :=
  ⟨acc, e _ _ hD, by rw [sizeLine_eq]; omega, (l.trans e).set new, acc ++ [y], upd_same, by simp; omega, p⟩
theorem LcP.skip {H1 H H4 : Hp} {D : Addr} {P : Nat → List V → Hp → Prop} {i : Nat} {acc : List V} (l : Ext H1 H) (hD : H D = some (.lst acc)) (hl : acc.length ≤ i) (e : Ext H H4) (p : P (i + 1) acc H4) : LcP H1 D P (i + 1) H4 :=
  ⟨l.trans e, acc, e _ _ hD, Nat.le_succ_of_le hl, p⟩
theorem yesT {σ : L2.St} {H : Hp} {A B : Bool → Hp → Prop} (h : A true H) : tYes σ H (fun b H3 => if b = true then A b H3 else B b H3) := by show (if true = true then A true H else B true H); rw [if_pos rfl]; exact h
theorem paired_app {α β : Type} {F : α → β → Prop} : ∀ {l l' : List α} {m m' : List β}, Paired F l m → Paired F l' m' → Paired F (l ++ l') (m ++ m')
  | _, _, _, _, .nil, h => h
  | _, _, _, _, .cons a b, h => .cons a (paired_app b h)
theorem paired_len {α β : Type} {F : α → β → Prop} : ∀ {l : List α} {m : List β}, Paired F l m → l.length = m.length
  | _, _, .nil => rfl
  | _, _, .cons _ b => congrArg (· + 1) (paired_len b)
/-! ### slices and sums of tuples -/
/-- the tuple xs -/
def Tp (H : Hp) (v : V) (xs : List V) : Prop := ∃ b, v = .ref b ∧ Ta H b xs
theorem Tp.ext {H H' : Hp} {v : V} {xs : List V} (t : Tp H v xs) (e : Ext H H') : Tp H' v xs := let ⟨a, h1, h2⟩ := t; ⟨a, h1, ta_ext h2 e⟩
theorem sl_any {K : PySem.W.Frag} {a : Addr} {xs : List V} {lo hi : Option Int} {H : Hp} {Q : VK} (ha : Ta H a xs) (q : ∀ v H', Ext H H' → Tp H' v (cutV xs lo hi) → Q v H') : rSlA K (.ref a) lo hi H Q := by
  refine ⟨a, xs, rfl, .inl ha, fun ⟨h1, h2⟩ => q _ _ Ext.rfl ⟨a, rfl, ?_⟩, fun _ p hp => q _ _ (Ext.upd hp) ⟨p, rfl, .inl upd_same⟩⟩
  unfold cutV
  rw [h1, h2, List.drop_zero, Nat.sub_zero, List.take_length]
  exact ha
theorem cut_to (xs : List V) (k : Nat) (h : k ≤ xs.length) : cutV xs none (some (k : Int)) = xs.take k := by
  unfold cutV
  rw [HT.sIx_none, HT.sIx_nat, Nat.min_eq_left h, List.drop_zero, Nat.sub_zero]
theorem cut_from (xs : List V) (k : Nat) (h : k ≤ xs.length) : cutV xs (some (k : Int)) none = xs.drop k := by
  unfold cutV
  rw [HT.sIx_none, HT.sIx_nat, Nat.min_eq_left h]
  exact List.take_of_length_le (by rw [List.length_drop]; exact Nat.le_refl _)
theorem cut_mid (xs : List V) (j k : Nat) (h : k ≤ xs.length) (hj : j ≤ k) : cutV xs (some (j : Int)) (some (k : Int)) = (xs.drop j).take (k - j) := by
  unfold cutV
  rw [HT.sIx_nat, HT.sIx_nat, Nat.min_eq_left h, Nat.min_eq_left (Nat.le_trans hj h)]
theorem cat_any {K : PySem.W.Frag} {a b : Addr} {xs ys : List V} {H : Hp} {Q : VK} (ha : Ta H a xs) (hb : Ta H b ys) (hz : xs.length + ys.length ≤ 1000000) (q : ∀ v H', Ext H H' → Tp H' v (xs ++ ys) → Q v H') : rCatA K (.ref a) (.ref b) H Q := by
  refine ⟨a, b, xs, ys, rfl, rfl, .inl ha, .inl hb, by rw [sizeLine_eq]; omega, fun h => q _ _ Ext.rfl ⟨b, rfl, by rw [h]; exact hb⟩, fun _ h => q _ _ Ext.rfl ⟨a, rfl, by rw [h, List.append_nil]; exact ha⟩, fun _ _ p hp => q _ _ (Ext.upd hp) ⟨p, rfl, .inl upd_same⟩⟩
abbrev Tns (H : Hp) (vs : List V) (R : List (List Nat)) : Prop := Paired (Pf H) vs R
theorem tns_ext {H H' : Hp} {vs : List V} {R : List (List Nat)} (t : Tns H vs R) (e : Ext H H') : Tns H' vs R := L2.Paired.mapP t fun _ _ k => k.ext e
theorem tns_extT {H H' : Hp} {vs : List V} {R : List (List Nat)} (t : Tns H vs R) (e : ExtT H H') : Tns H' vs R := L2.Paired.mapP t fun _ _ k => k.extT e
theorem wipe_one (σ : L2.St) (j : Nat) (x : Option V) : wipe ((wipe σ [j]).set j x) [j] = wipe σ [j] := by
  show ((σ.set j none).set j x).set j none = σ.set j none
  rw [List.set_set, List.set_set]
theorem get_one {σ : L2.St} {j : Nat} {x : Option V} (h : j < σ.length) : ((wipe σ [j]).set j x)[j]? = some x := by
  show ((σ.set j none).set j x)[j]? = some x
  rw [List.set_set, List.getElem?_set_self h]
theorem nVs_get {l : List Nat} {i : Nat} {x : V} (h : (nVs l)[i]? = some x) : ∃ y, l[i]? = some y ∧ x = nV y := by
  rw [List.getElem?_map] at h
  cases e : l[i]? with
  | none => rw [e] at h; cases h
  | some y => rw [e] at h; cases h; exact ⟨y, rfl, rfl⟩
theorem take_succ_filter {l : List Nat} {i y : Nat} (p : Nat → Bool) (h : l[i]? = some y) : (l.take (i + 1)).filter p = (l.take i).filter p ++ (if p y then [y] else []) := by
  rw [List.take_add_one, h, List.filter_append]
  cases e : p y <;> simp [e]
/-- [x for x in l if p(x)] -/
theorem lc_filter {K : PySem.W.Frag} {a : Addr} {l : List Nat} {j : Nat} {tt : TT} {te : TE} {σ : L2.St} {H : Hp} {Q : VK} (p : Nat → Bool) (hj : j < σ.length) (hl : l.length ≤ 900) (ha : Ta H a (nVs l)) (hte : ∀ R : VK, R (.ref a) H → te σ H R)
    (ht : ∀ x ∈ l, ∀ (H' : Hp) (Q' : Bool → Hp → Prop), Ext H H' → Q' (p x) H' → tt ((wipe σ [j]).set j (some (nV x))) H' Q') (hq : ∀ D H', H D = none → Ext H H' → H' D = some (.lst (nVs (l.filter p))) → Q (.ref D) H') :
    tLc (iTup K te) (gName j) tt (tVar j) [j] σ H Q := by
  refine hte _ ⟨a, rfl, ⟨_, .inl ha⟩, fun D new => lc_tup (K := K) (xs := nVs l) (LcP H D fun i acc _ => acc = nVs ((l.take i).filter p)) (LcP.start new rfl) (fun i H1 _ q => .inl (ta_ext ha q.1)) (fun i x H1 hx q => ?_) fun H1 q => ?_⟩
  · obtain ⟨e1, acc, hD, hacc, hp⟩ := q
    obtain ⟨y, hy, rfl⟩ := nVs_get hx
    have hi : i < l.length := (List.getElem?_eq_some_iff.mp hy).1
    refine ⟨wipe_one σ j _, ht y (List.mem_of_getElem? hy) H1 _ e1 ?_⟩
    have tk := take_succ_filter p hy
    cases e : p y with
    | true =>
      rw [if_pos rfl]
      rw [e, if_pos rfl] at tk
      exact ⟨_, get_one hj, LcP.put new e1 hD hacc (by omega) Ext.rfl (by rw [hp, tk, nVs_app]; rfl)⟩
    | false =>
      rw [if_neg Bool.false_ne_true]
      rw [e, if_neg Bool.false_ne_true, List.append_nil] at tk
      exact LcP.skip e1 hD hacc Ext.rfl (by rw [hp, tk])
  · obtain ⟨e1, acc, hD, hacc, hp⟩ := q
    have e : (nVs l).length = l.length := List.length_map ..
    rw [e, List.take_length] at hp
    exact hq D H1 new e1 (by rw [hD, hp])
theorem typ_tuple {K : PySem.W.Frag} : PySem.W.kitOne K (.type "tuple") (.type "tuple") = some true := kit_ty (by decide +kernel)
theorem typ_str {K : PySem.W.Frag} : PySem.W.kitOne K (.type "str") (.type "str") = some true := kit_ty (by decide +kernel)
theorem typ_int {K : PySem.W.Frag} : PySem.W.kitOne K (.type "int") (.type "int") = some true := kit_ty (by decide +kernel)
theorem typ_bool {K : PySem.W.Frag} : PySem.W.kitOne K (.type "int") (.type "bool") = some false := kit_ty (by decide +kernel)

section
variable {w : World} {K : PySem.W.Frag} {mg : Str → Option Value} {base : Heap}
abbrev OkD (w : World) (K : PySem.W.Frag) (mg : Str → Option Value) (base : Heap) (k : Nat) (f : Addr) (fd : FuncData) (ps : List Str) (sp : Sp) : Prop := FnOk PW w K mg base CX0 k f fd ps sp

/-! ### is_integer -/
def spIsInt : Sp := fun vs H Q _ => ∃ n lo hi : Int, vs = [.int n, .int lo, .int hi] ∧ Q (.bl (decide (lo ≤ n ∧ n ≤ hi))) H
theorem sc_is_integer : FnScope ["value", "low", "high"] ["value", "low", "high"] (defScope (topSt 12)) := ⟨rfl, rfl, rfl, by decide +kernel, rfl, by decide +kernel, by decide +kernel⟩
theorem ok_is_integer (m : Md K mg) : OkD w K mg base 1 (He.ga K "is_integer") m.d_is_integer ["value", "low", "high"] spIsInt := by
  refine m.F_is_integer.ok sc_is_integer (fun vs H Q E h => ?_) (fun cdv A outer s H vs Q E hr h => ⟨_, PSs.nox (pss_one (ps_ret
    (pe_and (pe_callB call_isi (by rfl) m.n_isinstance (by decide +kernel) (pa_cons (pv 0) (pa_cons (pe_bltn (v := .ty "int") (u := .type "int") (by rfl) m.n_int (by decide +kernel) rfl) pa_nil)))
    (pe_and (pe_not (pe_callB call_isi (by rfl) m.n_isinstance (by decide +kernel) (pa_cons (pv 0) (pa_cons (pe_bltn (v := .ty "bool") (u := .type "bool") (by rfl) m.n_bool (by decide +kernel) rfl) pa_nil))))
    (pe_one (pe_chain op_le op_le (pv 1) (pv 0) (pv 2))))))), ?_⟩)
  · obtain ⟨n, lo, hi, rfl, _⟩ := h; rfl
  · obtain ⟨n, lo, hi, rfl, q⟩ := h
    refine ⟨_, rfl, _, _, _, _, _, rfl, .ty "int", .base (.int n), typ_int, true, rfl, ?_⟩
    refine iteT ⟨_, rfl, _, _, _, _, _, rfl, .ty "bool", .base (.int n), typ_bool, false, rfl, true, rfl, ?_⟩
    refine iteT ⟨_, rfl, _, rfl, _, _, rfl, rfl, _, rfl, ?_⟩
    by_cases h1 : lo ≤ n
    · rw [if_pos (decide_eq_true h1)]
      refine ⟨_, rfl, _, _, rfl, rfl, ?_⟩
      have e : decide (lo ≤ n ∧ n ≤ hi) = decide (n ≤ hi) := by simp [h1]
      rw [e] at q; exact q
    · rw [if_neg (by simp [h1])]
      have e : decide (lo ≤ n ∧ n ≤ hi) = false := by simp [h1]
      rw [e] at q; exact q

/-! ### is_preference -/
def spIsPref : Sp := fun vs H Q _ => ∃ v l n, vs = [v, nV n] ∧ Tn H v l ∧ l.length = n ∧ n ≤ 900 ∧ 1 ≤ n ∧ (∀ x ∈ l, x < n) ∧ l.Nodup ∧ ∀ H', Ext H H' → Q (.bl true) H'
theorem sc_is_preference : FnScope ["value", "many", "lane"] ["value", "many"] (defScope (topSt 13)) := ⟨rfl, rfl, rfl, by decide +kernel, rfl, by decide +kernel, by decide +kernel⟩
theorem ok_is_preference (m : Md K mg) : OkD w K mg base 2 (He.ga K "is_preference") m.d_is_preference ["value", "many"] spIsPref := by
  refine m.F_is_preference.ok sc_is_preference (fun vs H Q E h => ?_) (fun cdv A outer s H vs Q E hr h => ⟨_, PSs.nox (pss_cons (ps_if (PW.pt (pw_or (pt_not (pt_val (pe_callB call_isi (by rfl) m.n_isinstance (by decide +kernel) (pa_cons (pv 0) (pa_cons (pe_bltn (v := .ty "tuple") (u := .type "tuple") (by rfl) m.n_tuple (by decide +kernel) rfl) pa_nil)))))
      (pw_or1 (pt_cmpR op_ne (pe_callB call_len_seq (by rfl) m.n_len PySem.boot_len (pa_cons (pv 0) pa_nil)) (pv 1) (nomark _))))) (pss_one (ps_ret pe_bl)) pss_nil)
    (pss_one (ps_ret (pe_and (pe_callB (cr_all rfl) (by rfl) m.n_all (by decide +kernel) (pa_cons (pe_lc (own := [("lane", 2)]) (g := gName 2) (tt := tYes) rfl sc_is_preference.nd (pi_tup (pv 0)) (blkOk_by (own := [("lane", 2)]) (N := ["value", "many", "lane"]) (sc := defScope (topSt 13)) (by decide +kernel)) (fun _ _ _ _ _ => pg_name (i := 2) sc_is_preference.nd rfl (Or.inl rfl)) (fun _ _ _ _ _ => pts_nil)
        (fun _ _ _ _ _ => pe_call (ok_is_integer m) hr rfl m.g_is_integer m.F_is_integer.kp m.b_is_integer .nil pass0 (pa_cons (pv 2) (pa_cons pe_int (pa_cons (pe_op op_sub (pv 1) pe_int) pa_nil))))) pa_nil))
      (pe_one (pe_cmpR op_eq (pe_lenSetT (by rfl) m.n_len (by rfl) m.n_set (pv 0)) (pv 1) (nomark _))))))), ?_⟩)
  · obtain ⟨v, l, n, rfl, _⟩ := h; rfl
  · obtain ⟨v, l, n, rfl, ⟨a, rfl, ha⟩, hl, hn, hn1, hlt, nd, q⟩ := h
    have len : (nVs l).length = n := by rw [List.length_map, hl]
    refine ⟨_, rfl, _, _, _, _, _, rfl, .ty "tuple", ty_tup ha, typ_tuple, true, rfl, ?_⟩
    refine iteF ⟨_, rfl, _, _, rfl, .inr (.inl ha), _, rfl, rfl, _, rfl, ?_⟩
    rw [len]
    refine iteNS rfl ?_
    refine ⟨_, rfl, _, rfl, ⟨_, .inl ha⟩, fun D new => lc_tup (K := K) (xs := nVs l) (LcP H D fun i acc _ => acc = List.replicate i (.bl true)) (LcP.start new rfl) (fun i H1 _ p => .inl (ta_ext ha p.1)) (fun i x H1 hx p => ?_) fun H1 p => ?_⟩
    · obtain ⟨e1, acc, hD, hacc, hp⟩ := p
      obtain ⟨y, hy, rfl⟩ : ∃ y, l[i]? = some y ∧ nV y = x := by simpa using hx
      have hi : i < l.length := (List.getElem?_eq_some_iff.mp hy).1
      have hyn := hlt y (List.mem_of_getElem? hy)
      refine ⟨rfl, yesT ⟨_, rfl, _, rfl, _, _, rfl, rfl, (y : Int), 0, (n : Int) - 1, rfl, ?_⟩⟩
      rw [decide_eq_true (show (0 : Int) ≤ y ∧ (y : Int) ≤ n - 1 by omega)]
      exact LcP.put new e1 hD hacc (by omega) Ext.rfl (by rw [hp, List.replicate_succ'])
    · obtain ⟨e1, acc, hD, hacc, hp⟩ := p
      rw [len] at hp
      refine ⟨D, List.replicate n true, rfl, SqL.of (by rw [hD, hp, List.map_replicate]), ?_⟩
      refine ⟨_, rfl, ?_⟩
      have e : (List.replicate n true).all id = true := by simp
      rw [e]
      refine iteT ⟨_, rfl, _, l.map fun k : Nat => (k : Int), rfl, .inl (by rw [← nVs_int]; exact ta_ext ha e1), ?_, by rw [List.length_map]; omega, _, rfl, rfl, ?_⟩
      · exact List.Pairwise.map _ (fun a b h => by omega) nd
      · rw [List.length_map, hl]
        have e : decide (V.int (n : Int) = nV n) = true := decide_eq_true rfl
        show Q (.bl (decide (V.int (n : Int) = nV n))) H1
        rw [e]
        exact q _ e1
end
end GG
/-! D2: rules by ranks, polite ones, in turns. -/
namespace GG
open PySem
open PySem.Spec
open PyProof.Rows
open L2
open RR
open StX

/-- a preference of n lanes -/
def Prm (l : List Nat) (n : Nat) : Prop := l.length = n ∧ (∀ x ∈ l, x < n) ∧ l.Nodup
section
variable {w : World} {K : PySem.W.Frag} {mg : Str → Option Value} {base : Heap}
abbrev OkR (w : World) (K : PySem.W.Frag) (mg : Str → Option Value) (base : Heap) (k : Nat) (f : Addr) (sp : Sp) : Prop := FnR PW w K mg base CX0 k f sp
/-! ### is_lane, check_preference -/
def spIsLane : Sp := fun vs H Q _ => ∃ (a : Addr) (xs : List V) (n : Int), vs = [.ref a, .int n] ∧ Ta H a xs ∧ Q (.bl (decide (0 ≤ n ∧ n ≤ (xs.length : Int) - 2))) H
theorem sc_is_lane : FnScope ["rule", "value"] ["rule", "value"] (defScope (topSt 14)) := ⟨rfl, rfl, rfl, by decide +kernel, rfl, by decide +kernel, by decide +kernel⟩
theorem ok_is_lane (m : Md K mg) : OkD w K mg base 2 (He.ga K "is_lane") m.d_is_lane ["rule", "value"] spIsLane := by
  refine m.F_is_lane.ok sc_is_lane (fun vs H Q E h => ?_) (fun cdv A outer s H vs Q E hr h => ⟨_, PSs.nox (pss_one (ps_ret (pe_call (ok_is_integer m) hr rfl m.g_is_integer m.F_is_integer.kp m.b_is_integer .nil pass0
    (pa_cons (pv 1) (pa_cons pe_int (pa_cons (pe_op op_sub (pe_callB call_len_seq (by rfl) m.n_len PySem.boot_len (pa_cons (pv 0) pa_nil)) pe_int) pa_nil)))))), ?_⟩)
  · obtain ⟨a, xs, n, rfl, _⟩ := h; rfl
  · obtain ⟨a, xs, n, rfl, ha, q⟩ := h
    exact ⟨_, rfl, _, rfl, _, _, rfl, .inr (.inl ha), _, _, rfl, rfl, n, 0, _, rfl, q⟩
def spCheckPref : Sp := fun vs H Q _ => ∃ v l n, vs = [v] ∧ Tn H v l ∧ Prm l n ∧ 1 ≤ n ∧ n ≤ 6 ∧ ∀ H', Ext H H' → Q .non H'
theorem sc_check_preference : FnScope ["value"] ["value"] (defScope (topSt 15)) := ⟨rfl, rfl, rfl, by decide +kernel, rfl, by decide +kernel, by decide +kernel⟩
theorem ok_check_preference (m : Md K mg) : OkD w K mg base 3 (He.ga K "check_preference") m.d_check_preference ["value"] spCheckPref := by
  obtain ⟨tL, hL⟩ := m.maxLanes
  refine m.F_check_preference.ok sc_check_preference (fun vs H Q E h => ?_) (fun cdv A outer s H vs Q E hr h => ⟨_, PSs.nox (pss_one (ps_if (PW.pt (pw_or (pt_not (pt_chain op_le op_le pe_int (pe_callB call_len_seq (by rfl) m.n_len PySem.boot_len (pa_cons (pv 0) pa_nil)) (pe_glob (v := .int 6) (by rfl) hL ⟨_, rfl⟩)))
      (pw_or1 (pt_not (pt_val (pe_call (ok_is_preference m) hr rfl m.g_is_preference m.F_is_preference.kp m.b_is_preference .nil pass0 (pa_cons (pv 0) (pa_cons (pe_callB call_len_seq (by rfl) m.n_len PySem.boot_len (pa_cons (pv 0) pa_nil)) pa_nil))))))))
      (pss_one ps_never) pss_nil)), ?_⟩)
  · obtain ⟨v, l, n, rfl, _⟩ := h; rfl
  · obtain ⟨v, l, n, rfl, ⟨a, rfl, ha⟩, ⟨hl, hlt, nd⟩, h1, h6, q⟩ := h
    have len : (nVs l).length = n := by rw [List.length_map, hl]
    refine ⟨_, rfl, _, _, rfl, .inr (.inl ha), _, _, rfl, rfl, true, ?_, ?_⟩
    · rw [len]
      exact congrArg V.bl (decide_eq_true (by omega))
    · refine iteT ⟨_, _, rfl, rfl, true, congrArg V.bl (decide_eq_true (by rw [len]; omega)), ?_⟩
      refine iteF ⟨_, rfl, _, rfl, _, _, rfl, .inr (.inl ha), _, l, n, by rw [len] <;> rfl, ⟨a, rfl, ha⟩, hl, by omega, h1, hlt, nd, fun H' e => ⟨true, rfl, ?_⟩⟩
      exact iteF (q H' e)

/-! ### ranks_rule -/
def spRanks : Sp := fun vs H Q _ => ∃ v l n, vs = [v] ∧ Pf H v l ∧ Prm l n ∧ 1 ≤ n ∧ n ≤ 6 ∧ ∀ r H', Ext H H' → Tt H' r (List.replicate (n + 1) l) → Q r H'
theorem sc_ranks_rule : FnScope ["lanes"] ["lanes"] (defScope (topSt 16)) := ⟨rfl, rfl, rfl, by decide +kernel, rfl, by decide +kernel, by decide +kernel⟩
theorem bind_s0 {B : List Value → Sem (List (Str × Value))} {pv : Str} (h0 : B [] = (newTuple [] >>= fun t => pure [(pv, t)])) (h1 : ∀ r rs, B (r :: rs) = (newTuple (r :: rs) >>= fun t => pure [(pv, t)])) :
    ∀ us rest : List Value, us.length = ([] : List Str).length → B (us ++ rest) = (newTuple rest >>= fun t => pure (([] : List Str).zip us ++ [(pv, t)]))
  | [], [], _ => h0
  | [], r :: rs, _ => h1 r rs
theorem paired_rep {α β : Type} {F : α → β → Prop} {a : α} {b : β} (h : F a b) : ∀ n : Nat, Paired F (List.replicate n a) (List.replicate n b)
  | 0 => .nil
  | n + 1 => .cons h (paired_rep h n)
theorem flat_one {α : Type} (a : α) : ∀ n : Nat, (List.replicate n [a]).flatten = List.replicate n a
  | 0 => rfl
  | n + 1 => by rw [List.replicate_succ, List.flatten_cons, flat_one a n]; rfl
theorem ok_ranks_rule (m : Md K mg) : OkR w K mg base 4 (He.ga K "ranks_rule") (spStar [] spRanks) := by
  refine starOk (pv := "lanes") m.F_ranks_rule sc_ranks_rule (fun kV doc pm an cdv ct us rest hl => bind_s0 (B := fun us => bindArgs (PySem.W.fnOf _ _ _ _ _ .none kV doc pm an cdv ct) ⟨us, []⟩) rfl (fun _ _ => rfl) us rest hl) (fun cdv A outer s H vs Q E hr h => ⟨_, PSs.nox (pss_cons (ps_expr (pe_call (ok_check_preference m) hr rfl m.g_check_preference m.F_check_preference.kp m.b_check_preference .nil pass0 (pa_cons (pv 0) pa_nil)))
    (pss_one (ps_ret (pe_op op_repT (pe_tup (pa_cons (pv 0) pa_nil)) (pe_op op_add (pe_callB call_len_seq (by rfl) m.n_len PySem.boot_len (pa_cons (pv 0) pa_nil)) pe_int))))), ?_⟩)
  obtain ⟨v, l, n, rfl, pf, pr, h1, h6, q⟩ := h
  obtain ⟨a, rfl, ha⟩ := pf.tn
  have len : (nVs l).length = n := by rw [List.length_map, pr.1]
  refine ⟨_, rfl, _, l, n, rfl, ⟨a, rfl, ha⟩, pr, h1, h6, fun H1 e1 => ?_⟩
  refine ⟨_, rfl, by show 1 ≤ sizeLine; decide, fun p hp => ⟨_, rfl, _, _, rfl, .inr (.inl (ta_ext ha (e1.put hp))), _, _, rfl, rfl, ?_⟩⟩
  refine ⟨p, _, _, rfl, rfl, SqT.of upd_same, by simp, ?_, ?_, by simp, fun p2 hp2 => q _ _ ((e1.put hp).put hp2) ?_⟩
  · rw [len]; omega
  · rw [len]; omega
  · refine ⟨p2, _, rfl, .inl upd_same, ?_⟩
    have e : ((((nVs l).length : Nat) : Int) + 1).toNat = n + 1 := by rw [len]; omega
    rw [e, flat_one]
    exact paired_rep (pf.ext ((e1.put hp).put hp2)) _

/-! ### polite_rule -/
def politeOf (l : List Nat) (n : Nat) : List (List Nat) := l :: (List.range n).map fun q => l.filter (fun x => x != q) ++ [q]
def spPolite : Sp := fun vs H Q _ => ∃ v l n, vs = [v] ∧ Pf H v l ∧ Prm l n ∧ 1 ≤ n ∧ n ≤ 6 ∧ ∀ r H', Ext H H' → Tt H' r (politeOf l n) → Q r H'
theorem sc_polite_rule : FnScope ["lanes", "rest", "last", "lane"] ["lanes"] (defScope (topSt 17)) := ⟨rfl, rfl, rfl, by decide +kernel, rfl, by decide +kernel, by decide +kernel⟩
theorem ok_polite_rule (m : Md K mg) : OkR w K mg base 4 (He.ga K "polite_rule") (spStar [] spPolite) := by
  refine starOk (pv := "lanes") m.F_polite_rule (N := ["lanes", "rest", "last", "lane"]) sc_polite_rule (fun kV doc pm an cdv ct us rest hl => bind_s0 (B := fun us => bindArgs (PySem.W.fnOf _ _ _ _ _ .none kV doc pm an cdv ct) ⟨us, []⟩) rfl (fun _ _ => rfl) us rest hl) (fun cdv A outer s H vs Q E hr h => ⟨_, PSs.nox (pss_cons (ps_expr (pe_call (ok_check_preference m) hr rfl m.g_check_preference m.F_check_preference.kp m.b_check_preference .nil pass0 (pa_cons (pv 0) pa_nil)))
    (pss_cons (ps_setLc (i := 1) (own := [("last", 2)]) (g := gName 2) (tt := tYes) (te := tTupF (tStar K (tLc (iTup K _) _ _ _ _) _)) rfl sc_polite_rule.nd rfl rfl (sw_true rfl rfl rfl (by decide +kernel)) (pi_range1 (by rfl) m.n_range (pa_cons (pe_callB call_len_seq (by rfl) m.n_len PySem.boot_len (pa_cons (pv 0) pa_nil)) pa_nil))
        (blkOk_by (own := [("last", 2)]) (N := ["lanes", "rest", "last", "lane"]) (sc := defScope (topSt 17)) (by decide +kernel)) (fun _ _ _ _ _ => pg_name (i := 2) sc_polite_rule.nd rfl (Or.inr rfl)) (fun _ _ _ _ _ => pts_nil)
        (fun _ _ _ _ _ => pe_tupF (pa_star (pe_lc (own := [("lane", 3)]) (g := gName 3) rfl sc_polite_rule.nd (pi_tup (pv 0)) (blkOk_by (by rfl)) (fun _ _ _ _ _ => pg_name (i := 3) sc_polite_rule.nd rfl (Or.inl rfl))
            (fun _ _ _ _ _ => pts_one (pt_cmpR op_ne (pv 3) (pv 2) (nomark _))) (fun _ _ _ _ _ => pv 3)) (pa_cons (pv 2) pa_nil))))
      (pss_one (ps_ret (pe_tup (pa_cons (pv 0) (pa_star (pv 1) pa_nil))))))), ?_⟩)
  obtain ⟨v, l, n, rfl, pf, pr, h1, h6, q⟩ := h
  obtain ⟨a, rfl, ha⟩ := pf.tn
  have len : (nVs l).length = n := by rw [List.length_map, pr.1]
  refine ⟨_, rfl, _, l, n, rfl, ⟨a, rfl, ha⟩, pr, h1, h6, fun H1 e1 => ?_⟩
  refine ⟨_, rfl, _, _, rfl, .inr (.inl (ta_ext ha e1)), (nVs l).length, rfl, by omega, by omega, fun D new => ?_⟩
  have en : (((nVs l).length : Nat) : Int).toNat = n := by rw [len]; rfl
  rw [en]
  refine lc_range (lo := 0) (n := n) (LcP H1 D fun i acc H => Tns H acc ((List.range i).map fun q => l.filter (fun x => x != q) ++ [q])) (LcP.start new .nil) (fun i H2 hi p => ?_) fun H2 p => ?_
  · obtain ⟨e2, acc, hD, hacc, hp⟩ := p
    refine ⟨wipe_one _ 2 _, yesT ?_⟩
    have ha2 := ta_ext ha (e1.trans e2)
    unfold tTupF tStar
    refine lc_filter (fun x => x != i) (by show 3 < 4; decide) (by rw [pr.1]; omega) ha2 (fun R r => ⟨_, rfl, r⟩) (fun x _ H' Q' e q' => ⟨_, rfl, _, rfl, rfl, _, rfl, ?_⟩) fun D2 H3 new2 e3 hD2 => ?_
    · have ee : (!decide (nV x = V.int (0 + (i : Nat)))) = (x != i) := by
        rw [Int.zero_add]
        by_cases hxi : x = i
        · subst hxi; simp
        · have h2 : ¬ (nV x = nV i) := fun z => hxi (by injection z with z; omega)
          rw [decide_eq_false h2]; simp [hxi]
      rw [ee]; exact q'
    · refine ⟨D2, _, rfl, .inr (SqL.of hD2), _, rfl, ?_⟩
      refine ⟨?_, fun t ob ht hob => ?_⟩
      · rw [sizeLine_eq]
        have := List.length_filter_le (fun x => x != i) l
        simp only [List.length_append, List.length_map, List.length_cons, List.length_nil]
        rw [pr.1] at this
        omega
      · refine LcP.put new e2 hD hacc (by omega) (e3.put ht) ?_
        rw [List.range_succ, List.map_append]
        have e4 : ExtT H2 (L2.upd (L2.upd H3 t (.frz ob (.tup (nVs (l.filter fun x => x != i) ++ [V.int (0 + (i : Nat))])))) D (.lst (acc ++ [V.ref t]))) := ((e3.put ht).tup).put (e3.put ht _ _ hD)
        refine paired_app (tns_extT hp e4) (.cons ⟨t, ob, rfl, ?_, hob⟩ .nil)
        have n1 : t ≠ D := fun z => by
          have k := e3 _ _ hD
          rw [← z, ht] at k; cases k
        rw [upd_ne n1, upd_same, Int.zero_add, nVs_app]
        rfl
  · obtain ⟨e2, acc, hD, hacc, hp⟩ := p
    refine ⟨_, rfl, _, rfl, D, acc, rfl, .inr (SqL.of hD), ?_, fun r hr => q _ _ ((e1.trans e2).put hr) ⟨r, _, rfl, .inl upd_same, .cons (pf.ext ((e1.trans e2).put hr)) (tns_ext (by simpa using hp) (Ext.upd hr))⟩⟩
    rw [sizeLine_eq]
    simp only [List.length_append, List.length_cons, List.length_nil]
    omega

/-! ### turns_rule -/
def turnsOf (n : Nat) : List (List Nat) := List.range n :: (List.range n).map fun q => (List.range n).drop (q + 1) ++ (List.range n).take (q + 1)
def spTurns : Sp := fun vs H Q _ => ∃ n, vs = [nV n] ∧ 1 ≤ n ∧ n ≤ 6 ∧ ∀ r H', Ext H H' → Tt H' r (turnsOf n) → Q r H'
theorem sc_turns_rule : FnScope ["count", "lanes", "last"] ["count"] (defScope (topSt 18)) := ⟨rfl, rfl, rfl, by decide +kernel, rfl, by decide +kernel, by decide +kernel⟩
theorem ok_turns_rule (m : Md K mg) : OkD w K mg base 2 (He.ga K "turns_rule") m.d_turns_rule ["count"] spTurns := by
  obtain ⟨tL, hL⟩ := m.maxLanes
  refine m.F_turns_rule.ok sc_turns_rule (fun vs H Q E h => ?_) (fun cdv A outer s H vs Q E hr h => ⟨_, PSs.nox (pss_cons (ps_if (pt_not (pt_val (pe_call (ok_is_integer m) hr rfl m.g_is_integer m.F_is_integer.kp m.b_is_integer .nil pass0 (pa_cons (pv 0) (pa_cons pe_int (pa_cons (pe_glob (v := .int 6) (by rfl) hL ⟨_, rfl⟩) pa_nil)))))) (pss_one ps_never) pss_nil)
    (pss_cons (ps_set (i := 1) sc_turns_rule.nd rfl (Or.inr rfl) (pe_tupRgF rfl (by rfl) m.n_tuple (prg_1 (by rfl) m.n_range (pv 0))))
      (pss_one (ps_ret (pe_tup (pa_cons (pv 1) (pa_star (pe_lc (own := [("last", 2)]) (g := gName 2) (tt := tYes) (te := tOp (rCatF K) (tSl (rSlA K) _ _ _) (tSl (rSlA K) _ _ _)) rfl sc_turns_rule.nd (pi_tup (pv 1)) (blkOk_by (own := [("last", 2)]) (N := ["count", "lanes", "last"]) (sc := defScope (topSt 18)) (by decide +kernel)) (fun _ _ _ _ _ => pg_name (i := 2) sc_turns_rule.nd rfl (Or.inl rfl)) (fun _ _ _ _ _ => pts_nil)
        (fun _ _ _ _ _ => pe_op op_catF (pe_slice sl_tupA (pv 1) (po_some (pe_op op_add (pv 2) pe_int)) po_none) (pe_slice sl_tupA (pv 1) po_none (po_some (pe_op op_add (pv 2) pe_int))))) pa_nil))))))), ?_⟩)
  · obtain ⟨n, rfl, _⟩ := h; rfl
  · obtain ⟨n, rfl, h1, h6, q⟩ := h
    refine ⟨_, rfl, n, 1, 6, rfl, true, congrArg V.bl (decide_eq_true (by omega)), ?_⟩
    refine iteF ⟨_, rfl, _, rfl, RgOk.of_le (by omega) (by omega) (by omega) (by omega), fun a oa ha hoa => ?_⟩
    have ra : rgV 0 (n : Int) = nVs (List.range n) := by
      unfold rgV
      simp
    rw [ra]
    have pf0 : Pf (L2.upd H a (.frz oa (.tup (nVs (List.range n))))) (.ref a) (List.range n) := ⟨a, oa, rfl, upd_same, hoa⟩
    have e1 : Ext H (L2.upd H a (.frz oa (.tup (nVs (List.range n))))) := Ext.upd ha
    generalize L2.upd H a (.frz oa (.tup (nVs (List.range n)))) = H1 at pf0 e1
    have at_ : Ta H1 a (nVs (List.range n)) := by
      obtain ⟨a', h1', h2'⟩ := pf0.tn
      cases h1'; exact h2'
    have len : (nVs (List.range n)).length = n := by rw [List.length_map, List.length_range]
    refine ⟨_, rfl, _, rfl, _, rfl, ⟨_, .inl at_⟩, fun D new => lc_tup (K := K) (xs := nVs (List.range n)) (LcP H1 D fun i acc H => Tns H acc ((List.range i).map fun q => (List.range n).drop (q + 1) ++ (List.range n).take (q + 1))) (LcP.start new .nil) (fun i H2 _ p => .inl (ta_ext at_ p.1)) (fun i x H2 hx p => ?_) fun H2 p => ?_⟩
    · obtain ⟨e2, acc, hD, hacc, hp⟩ := p
      obtain ⟨y, hy, rfl⟩ := nVs_get hx
      have hi : i < n := by simpa using (List.getElem?_eq_some_iff.mp hy).1
      obtain rfl : i = y := by simpa [hi] using hy
      refine ⟨wipe_one _ 2 _, yesT ?_⟩
      have at2 := ta_ext at_ e2
      have cs : ((i : Int) + 1) = ((i + 1 : Nat) : Int) := by omega
      refine ⟨_, rfl, _, rfl, _, _, rfl, rfl, _, rfl, ?_⟩
      rw [cs]
      dsimp only [tNoPart]
      refine sl_any at2 fun v1 H3 e3 ⟨b1, h1b, hb1⟩ => ?_
      subst h1b
      rw [cut_from _ _ (by rw [len]; omega)] at hb1
      -- what comes out is a preference
      have fin : ∀ (v : V) (H5 : Hp), Ext H2 H5 → Pf H5 v ((List.range n).drop (i + 1) ++ (List.range n).take (i + 1)) → ∃ acc', H5 D = some (.lst acc') ∧ acc'.length < sizeLine ∧ LcP H1 D (fun i acc H => Tns H acc ((List.range i).map fun q => (List.range n).drop (q + 1) ++ (List.range n).take (q + 1))) (i + 1) (L2.upd H5 D (.lst (acc' ++ [v]))) := fun v H5 ee pf5 => by
        refine LcP.put new e2 hD hacc (by omega) ee ?_
        rw [List.range_succ, List.map_append]
        have e6 : ExtT H2 (L2.upd H5 D (.lst (acc ++ [v]))) := ee.tup.put (ee _ _ hD)
        have e7 : ExtT H5 (L2.upd H5 D (.lst (acc ++ [v]))) := Ext.rfl.tup.put (ee _ _ hD)
        exact paired_app (tns_extT hp e6) (.cons (pf5.extT e7) .nil)
      have dr : (nVs (List.range n)).drop (i + 1) = nVs ((List.range n).drop (i + 1)) := nVs_drop _ _
      have tk : (nVs (List.range n)).take (i + 1) = nVs ((List.range n).take (i + 1)) := nVs_take _ _
      rw [dr] at hb1
      refine ⟨_, rfl, _, rfl, _, _, rfl, rfl, _, rfl, ?_⟩
      rw [cs]
      have at3 := ta_ext at2 e3
      refine ⟨a, _, rfl, .inl at3, fun hw => ?_, fun hw p hp' => ?_⟩
      · -- the whole tuple itself
        have hin : i + 1 = n := by
          have h2 := hw.2
          rw [len] at h2
          have h3 : HT.sIx n n (some ((i + 1 : Nat) : Int)) = min (i + 1) n := HT.sIx_nat n n (i + 1)
          rw [h3] at h2
          omega
        have z0 : (List.range n).drop (i + 1) = [] := List.drop_eq_nil_of_le (by rw [List.length_range]; omega)
        have z1 : (List.range n).take (i + 1) = List.range n := List.take_of_length_le (by rw [List.length_range]; omega)
        rw [z0] at hb1
        refine ⟨b1, a, _, _, rfl, rfl, .inl hb1, .inl at3, by rw [len, sizeLine_eq]; show 0 + n ≤ _; omega, fun _ => fin _ _ e3 ?_, fun z => absurd rfl z, fun z => absurd rfl z⟩
        rw [z0, z1, List.nil_append]
        exact pf0.ext (e2.trans e3)
      · have hin : i + 1 < n := by
          by_cases hlt : i + 1 < n
          · exact hlt
          · exfalso
            refine hw ⟨rfl, ?_⟩
            rw [len]
            have h3 : HT.sIx n n (some ((i + 1 : Nat) : Int)) = min (i + 1) n := HT.sIx_nat n n (i + 1)
            rw [h3]; omega
        rw [cut_to _ _ (by rw [len]; omega), tk]
        have n0 : nVs ((List.range n).drop (i + 1)) ≠ [] := fun z => by
          have := congrArg List.length z
          rw [List.length_map, List.length_drop, List.length_range, List.length_nil] at this
          omega
        have n1 : nVs ((List.range n).take (i + 1)) ≠ [] := fun z => by
          have := congrArg List.length z
          rw [List.length_map, List.length_take, List.length_range, List.length_nil] at this
          omega
        refine ⟨b1, p, _, _, rfl, rfl, .inl (ta_ext hb1 (Ext.upd hp')), .inl (.inl upd_same), ?_, fun z => absurd z n0, fun _ z => absurd z n1, fun _ _ p2 o2 hp2 ho2 => fin _ _ ((e3.put hp').put hp2) ⟨p2, o2, rfl, ?_, ho2⟩⟩
        · rw [List.length_map, List.length_map, List.length_drop, List.length_take, List.length_range, sizeLine_eq]; omega
        · rw [upd_same, nVs_app]
    · obtain ⟨e2, acc, hD, hacc, hp⟩ := p
      rw [len] at hp
      refine ⟨D, acc, rfl, .inr (SqL.of hD), ?_, fun r hr => q _ _ ((e1.trans e2).put hr) ⟨r, _, rfl, .inl upd_same, .cons (pf0.ext (e2.put hr)) (tns_ext (by simpa using hp) (Ext.upd hr))⟩⟩
      rw [sizeLine_eq]
      simp only [List.length_append, List.length_cons, List.length_nil]
      rw [len] at hacc
      omega
end
end GG
/-! D3: preference_after, first_lane, first_car; check_lane, check_last, spot_of, lanes_ahead. -/
namespace GG
open PySem
open PySem.Spec
open PyProof.Rows
open L2
open RR
open StX

def spot : Option Nat → Nat
  | none => 0
  | some n => n + 1
def lastV : Option Nat → V
  | none => .non
  | some n => nV n
theorem lastV_none (o : Option Nat) : decide (lastV o = V.non) = o.isNone := by
  cases o with
  | none => rfl
  | some n => exact decide_eq_false fun z => by cases z
/-- the lane that passes: the first in the preference that waits -/
def fstLane (p ws : List Nat) : Nat := ((p.filter fun x => ws.contains x).head?).getD 0
def laneOf (row : List Nat) (c : Nat) : Nat := row.getD c 0
def fstCar (p row cs : List Nat) : Nat := (cs.find? fun c => laneOf row c == fstLane p (cs.map (laneOf row))).getD 0
theorem flat_nVs (l : List Nat) : (nVs l).all flatV = true := by
  rw [List.all_map]; exact List.all_eq_true.mpr fun _ _ => rfl
theorem in_nVs (x : Nat) (l : List Nat) : inV (nV x) (nVs l) = l.contains x := by
  induction l with
  | nil => rfl
  | cons y r ih =>
    show (eqV (nV y) (nV x) || inV (nV x) (nVs r)) = _
    rw [ih, List.contains_cons]
    have e : eqV (nV y) (nV x) = (x == y) := by
      show ((y : Int) == (x : Int)) = (x == y)
      by_cases h : x = y
      · subst h; simp
      · have h2 : ¬ ((y : Int) = (x : Int)) := by omega
        rw [beq_eq_false_iff_ne.mpr h, beq_eq_false_iff_ne.mpr h2]
    rw [e]
theorem dp_nVs {K : PySem.W.Frag} {H : Hp} : ∀ l : List Nat, DpAll K H (nVs l) (l.map fun n : Nat => PyData.int (n : Int))
  | [] => .nil
  | n :: r => .cons (.int _) (dp_nVs r)
theorem flat_data : ∀ ds : List PyData, (∀ d ∈ ds, d.canLay0 = true ∧ d.depth = 0) → PyData.canLayAll0 ds = true ∧ PyData.depthAll ds = 0
  | [], _ => ⟨rfl, rfl⟩
  | x :: r, h => by
    obtain ⟨h1, h2⟩ := h x List.mem_cons_self
    obtain ⟨h3, h4⟩ := flat_data r fun d hd => h d (List.mem_cons_of_mem _ hd)
    exact ⟨by simp [PyData.canLayAll0, h1, h3], by simp [PyData.depthAll, h2, h4]⟩
theorem shaped_flat {ds : List PyData} (h : ∀ d ∈ ds, d.canLay0 = true ∧ d.depth = 0) : SeqAt.shaped (.tuple ds) = true ∧ SeqAt.shaped (.list ds) = true := by
  obtain ⟨h1, h2⟩ := flat_data ds h
  exact ⟨by simp [SeqAt.shaped, PyData.canLay0, PyData.depth, h1, h2], by simp [SeqAt.shaped, PyData.canLay0, PyData.depth, h1, h2]⟩
theorem shaped_ints (l : List Nat) : SeqAt.shaped (.tuple (l.map fun n : Nat => PyData.int (n : Int))) = true := (shaped_flat fun d hd => by
  obtain ⟨n, _, rfl⟩ := List.mem_map.mp hd
  exact ⟨rfl, rfl⟩).1
/-- the first place -/
theorem first_at {q : Nat → Bool} : ∀ {cs : List Nat}, (∃ c ∈ cs, q c = true) → ∃ j c, cs[j]? = some c ∧ q c = true ∧ (∀ (m : Nat) c', m < j → cs[m]? = some c' → q c' = false) ∧ cs.find? q = some c
  | [], ⟨_, h, _⟩ => by cases h
  | x :: r, ⟨c, h, hq⟩ => by
    cases e : q x with
    | true => exact ⟨0, x, rfl, e, fun m c' hm => by omega, by rw [List.find?_cons, e]⟩
    | false =>
      obtain ⟨j, c1, h1, h2, h3, h4⟩ := first_at (cs := r) ⟨c, by
        rcases List.mem_cons.mp h with z | z
        · rw [z, e] at hq; cases hq
        · exact z, hq⟩
      refine ⟨j + 1, c1, h1, h2, fun m c' hm hc => ?_, by rw [List.find?_cons, e]; exact h4⟩
      cases m with
      | zero => have : x = c' := Option.some.inj hc; rw [← this]; exact e
      | succ m => exact h3 m c' (by omega) hc
theorem fstLane_mem {p ws : List Nat} (h : ∃ x ∈ p, x ∈ ws) : fstLane p ws ∈ ws ∧ fstLane p ws ∈ p := by
  obtain ⟨x, h1, h2⟩ := h
  have hm : x ∈ p.filter fun x => ws.contains x := List.mem_filter.mpr ⟨h1, List.contains_iff_mem.mpr h2⟩
  unfold fstLane
  cases hf : p.filter fun x => ws.contains x with
  | nil => rw [hf] at hm; cases hm
  | cons z zs =>
    have : z ∈ p.filter fun x => ws.contains x := by rw [hf]; exact List.mem_cons_self
    obtain ⟨k1, k2⟩ := List.mem_filter.mp this
    exact ⟨List.contains_iff_mem.mp k2, k1⟩
section
variable {w : World} {K : PySem.W.Frag} {mg : Str → Option Value} {base : Heap}
/-! ### preference_after -/
def spPrefAfter : Sp := fun vs H Q _ => ∃ r R o p, vs = [r, lastV o] ∧ Tt H r R ∧ R[spot o]? = some p ∧ ∀ v, Pf H v p → Q v H
theorem sc_preference_after : FnScope ["rule", "last"] ["rule", "last"] (defScope (topSt 19)) := ⟨rfl, rfl, rfl, by decide +kernel, rfl, by decide +kernel, by decide +kernel⟩
theorem ok_preference_after (m : Md K mg) : OkD w K mg base 3 (He.ga K "preference_after") m.d_preference_after ["rule", "last"] spPrefAfter := by
  refine m.F_preference_after.ok sc_preference_after (fun vs H Q E h => ?_) (fun cdv A outer s H vs Q E hr h => ⟨_, PSs.nox (pss_cons (ps_if (pt_cmpR op_isN (pv 1) pe_non (nomark _)) (pss_one (ps_ret (pe_ix ix_tup (pv 0) pe_int (fun _ _ => rfl)))) pss_nil)
    (pss_cons (ps_if (pt_not (pt_val (pe_call (ok_is_lane m) hr rfl m.g_is_lane m.F_is_lane.kp m.b_is_lane .nil pass0 (pa_cons (pv 0) (pa_cons (pv 1) pa_nil))))) (pss_one ps_never) pss_nil)
      (pss_one (ps_ret (pe_ix ix_tup (pv 0) (pe_op op_add pe_int (pv 1)) (fun _ _ => rfl)))))), ?_⟩)
  · obtain ⟨r, R, o, p, rfl, _⟩ := h; rfl
  · obtain ⟨r, R, o, p, rfl, ⟨a, xs, rfl, ha, hp⟩, hR, q⟩ := h
    obtain ⟨v, hv, tv⟩ := paired_get _ _ hp hR
    have lt : spot o < xs.length := (List.getElem?_eq_some_iff.mp hv).1
    refine ⟨_, rfl, rfl, _, rfl, ?_⟩
    show if decide (lastV o = V.non) = true then _ else _
    rw [lastV_none]
    cases o with
    | none => exact iteT ⟨_, rfl, _, _, _, _, rfl, rfl, Or.inl ha, atI_nat (j := 0) hv, q _ tv⟩
    | some n =>
      have lt' : n + 1 < xs.length := lt
      refine iteF ⟨_, rfl, _, rfl, a, xs, (n : Int), rfl, ha, true, congrArg V.bl (decide_eq_true (by omega)), ?_⟩
      refine iteF ⟨_, rfl, _, rfl, _, _, rfl, rfl, _, _, _, _, rfl, rfl, Or.inl ha, ?_, q _ tv⟩
      have e : (1 : Int) + (n : Int) = ((n + 1 : Nat) : Int) := by omega
      rw [e]
      exact atI_nat hv

/-! ### first_lane -/
def spFstLane : Sp := fun vs H Q _ => ∃ r R o wv p ws, vs = [r, lastV o, wv] ∧ Tt H r R ∧ R[spot o]? = some p ∧ Tn H wv ws ∧ p.length ≤ 900 ∧ ws.length ≤ 900 ∧ ws ≠ [] ∧ (∀ x ∈ ws, x + 1 < R.length) ∧ (∃ x ∈ p, x ∈ ws) ∧ ∀ H', Ext H H' → Q (nV (fstLane p ws)) H'
theorem sc_first_lane : FnScope ["rule", "last", "waiting", "preference", "lane"] ["rule", "last", "waiting"] (defScope (topSt 20)) := ⟨rfl, rfl, rfl, by decide +kernel, rfl, by decide +kernel, by decide +kernel⟩
theorem ok_first_lane (m : Md K mg) : OkR w K mg base 4 (He.ga K "first_lane") (spStar ["rule", "last"] spFstLane) := by
  refine starOk (pv := "waiting") (ps := ["rule", "last"]) m.F_first_lane sc_first_lane (fun kV doc pm an cdv ct us rest hl => bind_star2 (B := fun us => bindArgs (PySem.W.fnOf _ _ _ _ _ .none kV doc pm an cdv ct) ⟨us, []⟩) (fun _ _ => rfl) (fun _ _ _ _ => rfl) us rest hl)
    (fun cdv A outer s H vs Q E hr h => ⟨_, PSs.nox (pss_cons (ps_set (i := 3) sc_first_lane.nd rfl (Or.inl rfl) (pe_call (ok_preference_after m) hr rfl m.g_preference_after m.F_preference_after.kp m.b_preference_after .nil pass0 (pa_cons (pv 0) (pa_cons (pv 1) pa_nil))))
    (pss_cons (ps_if (pt_cmpR (op_eqD hr.units) (pv 2) (pe_tup pa_nil) (nomark _)) (pss_one ps_never) pss_nil)
    (pss_cons (ps_for PassesOwn.never rfl (pi_tup (pv 2)) (pg_name (i := 4) sc_first_lane.nd rfl (Or.inl rfl)) (pss_one (ps_if (pt_not (pt_val (pe_call (ok_is_lane m) (hr.mono (by decide)) rfl m.g_is_lane m.F_is_lane.kp m.b_is_lane .nil pass0 (pa_cons (pv 0) (pa_cons (pv 4) pa_nil))))) (pss_one ps_never) pss_nil)))
    (pss_one (ps_ret (pe_ix ix_list (pe_lc (own := [("lane", 4)]) (g := gName 4) (tt := tTest (tOp (rIn K false) (tVar 4) (tVar 2))) rfl sc_first_lane.nd (pi_tup (pv 3)) (blkOk_by (own := [("lane", 4)]) (N := ["rule", "last", "waiting", "preference", "lane"]) (sc := defScope (topSt 20)) (by decide +kernel))
      (fun _ _ _ _ _ => pg_name (i := 4) sc_first_lane.nd rfl (Or.inl rfl)) (fun _ _ _ _ _ => pts_one (pt_cmpR op_in_seq (pv 4) (pv 2) (by rfl))) (fun _ _ _ _ _ => pv 4)) pe_int (fun _ _ => rfl))))))), ?_⟩)
  obtain ⟨r, R, o, wv, p, ws, rfl, ⟨a, xs, rfl, ha, hp⟩, hR, ⟨b, rfl, hb⟩, lp, lw, ne, hx, hex, q⟩ := h
  have len : xs.length = R.length := paired_len hp
  refine ⟨_, rfl, _, rfl, _, R, o, p, rfl, ⟨a, xs, rfl, ha, hp⟩, hR, fun v tv => ?_⟩
  obtain ⟨c, rfl, hc⟩ := tv.tn
  refine ⟨_, rfl, by show 0 ≤ sizeLine; decide, fun t ht => ⟨.tuple (ws.map fun n : Nat => PyData.int (n : Int)), .tuple [], .tup (Or.inl (ta_ext hb (Ext.upd ht))) (dp_nVs ws), .tup (SqT.of upd_same) .nil, ?_, ?_, false, ?_, ?_⟩⟩
  · exact shaped_ints ws
  · rfl
  · cases ws with
    | nil => exact absurd rfl ne
    | cons x r => rfl
  have e1 : Ext H (L2.upd H t (.tup [])) := Ext.upd ht
  generalize L2.upd H t (.tup []) = H1 at e1
  refine iteF ⟨_, rfl, b, rfl, ⟨_, Or.inl (ta_ext hb e1)⟩, for_tup (xs := nVs ws) (fun i σ' H' => H' = H1 ∧ ∃ y, σ' = [some (V.ref a), some (lastV o), some (V.ref b), some (V.ref c), y]) ⟨rfl, _, rfl⟩ (fun i σ' H' _ h => by rw [h.1]; exact Or.inl (ta_ext hb e1)) (fun i x σ' H' hx' h => ?_) fun σ' H' h => ?_⟩
  · obtain ⟨rfl, y, rfl⟩ := h
    obtain ⟨z, hz, rfl⟩ := nVs_get hx'
    have hz2 := hx z (List.mem_of_getElem? hz)
    refine ⟨_, rfl, _, rfl, a, xs, (z : Int), rfl, ta_ext ha e1, true, congrArg V.bl (decide_eq_true (by omega)), ?_⟩
    exact iteF ⟨rfl, _, rfl⟩
  · obtain ⟨rfl, y, rfl⟩ := h
    dsimp only [tRet, tOp]
    refine lc_filter (fun x => ws.contains x) (by show 4 < 5; decide) lp (ta_ext hc e1) (fun R r => ⟨_, rfl, r⟩) (fun x hx H' Q' e q' => ⟨_, rfl, _, rfl, b, _, rfl, .inr (Or.inl (ta_ext hb (e1.trans e))), rfl, flat_nVs ws, _, rfl, ?_⟩) fun D H2 new e2 hD => ?_
    · rw [if_neg Bool.false_ne_true, in_nVs]; exact q'
    · refine ⟨D, _, 0, _, rfl, rfl, SqL.of hD, atI_nat (j := 0) ?_, q _ (e1.trans e2)⟩
      obtain ⟨x, h1, h2⟩ := hex
      have hm : x ∈ p.filter fun x => ws.contains x := List.mem_filter.mpr ⟨h1, List.contains_iff_mem.mpr h2⟩
      unfold fstLane
      cases hf : p.filter fun x => ws.contains x with
      | nil => rw [hf] at hm; cases hm
      | cons z zs => rfl
/-! ### first_car -/
def spFstCar : Sp := fun vs H Q _ => ∃ r R o p rv row wv cs, vs = [r, rv, lastV o, wv] ∧ Tt H r R ∧ R[spot o]? = some p ∧ p.length ≤ 900 ∧ Tn H rv row ∧ Tn H wv cs ∧ cs.length ≤ 900 ∧ cs ≠ [] ∧ (∀ c ∈ cs, c < row.length) ∧ (∀ c ∈ cs, laneOf row c + 1 < R.length) ∧ (∀ c ∈ cs, laneOf row c ∈ p) ∧
  ∀ H', Ext H H' → Q (nV (fstCar p row cs)) H'
theorem sc_first_car : FnScope ["rule", "row", "last", "waiting", "lanes", "car"] ["rule", "row", "last", "waiting"] (defScope (topSt 22)) := ⟨rfl, rfl, rfl, by decide +kernel, rfl, by decide +kernel, by decide +kernel⟩
theorem ok_first_car (m : Md K mg) : OkD w K mg base 5 (He.ga K "first_car") m.d_first_car ["rule", "row", "last", "waiting"] spFstCar := by
  refine m.F_first_car.ok sc_first_car (fun vs H Q E h => ?_) (fun cdv A outer s H vs Q E hr h => ⟨_, PSs.nox (pss_cons (ps_setLc (i := 4) (own := [("car", 5)]) (g := gName 5) (tt := tYes) (te := tOp (rIxT K) (tVar 1) (tVar 5)) rfl sc_first_car.nd rfl rfl (sw_true rfl rfl rfl (by decide +kernel)) (pi_tup (pv 3))
      (blkOk_by (own := [("car", 5)]) (N := ["rule", "row", "last", "waiting", "lanes", "car"]) (sc := defScope (topSt 22)) (by decide +kernel)) (fun _ _ _ _ _ => pg_name (i := 5) sc_first_car.nd rfl (Or.inl rfl)) (fun _ _ _ _ _ => pts_nil) (fun _ _ _ _ _ => pe_ix ix_tup (pv 1) (pv 5) (fun _ _ => rfl)))
    (pss_one (ps_ret (pe_ix ix_tup (pv 3) (pe_bm PySem.F.plainAttrs_list PySem.F.slot_list_index PySem.F.type_list_index mt_index (pv 4) (pa_cons (pe_callS2 (ok_first_lane m) hr m.F_first_lane.kp rfl m.g_first_lane pass0 (pa_cons (pv 0) (pa_cons (pv 2) (pa_star (pv 4) pa_nil)))) pa_nil)) (fun _ _ => rfl))))), ?_⟩)
  · obtain ⟨r, R, o, p, rv, row, wv, cs, rfl, _⟩ := h; rfl
  · obtain ⟨r, R, o, p, rv, row, wv, cs, rfl, ⟨a, xs, rfl, ha, hp⟩, hR, lp, ⟨b, rfl, hb⟩, ⟨c, rfl, hc⟩, lc, ne, hrow, hlane, hin, q⟩ := h
    refine ⟨_, rfl, c, rfl, ⟨_, .inl hc⟩, fun D new => lc_tup (K := K) (xs := nVs cs) (LcP H D fun i acc _ => acc = nVs ((cs.take i).map (laneOf row))) (LcP.start new rfl) (fun i H1 _ q => .inl (ta_ext hc q.1)) (fun i x H1 hx q => ?_) fun H1 q2 => ?_⟩
    · obtain ⟨e1, acc, hD, hacc, hp⟩ := q
      obtain ⟨y, hy, rfl⟩ := nVs_get hx
      have hi : i < cs.length := (List.getElem?_eq_some_iff.mp hy).1
      have hr1 := hrow y (List.mem_of_getElem? hy)
      refine ⟨wipe_one _ 5 _, yesT ⟨_, rfl, _, rfl, b, _, (y : Int), nV (laneOf row y), rfl, rfl, .inl (ta_ext hb e1), atI_nat ?_, ?_⟩⟩
      · rw [List.getElem?_map, List.getElem?_eq_getElem hr1]
        show some (nV row[y]) = some (nV (row.getD y 0))
        rw [List.getD_eq_getElem?_getD, List.getElem?_eq_getElem hr1]; rfl
      · refine LcP.put new e1 hD hacc (by omega) Ext.rfl ?_
        rw [hp, List.take_add_one, hy, List.map_append, nVs_app]; rfl
    · obtain ⟨e1, acc, hD, hacc, hp2⟩ := q2
      have el : (nVs cs).length = cs.length := List.length_map ..
      rw [el, List.take_length] at hp2
      subst hp2
      have hex : ∃ x ∈ p, x ∈ cs.map (laneOf row) := by
        cases cs with
        | nil => exact absurd rfl ne
        | cons z zs => exact ⟨laneOf row z, hin z List.mem_cons_self, List.mem_map.mpr ⟨z, List.mem_cons_self, rfl⟩⟩
      obtain ⟨m1, m2⟩ := fstLane_mem hex
      obtain ⟨c0, hc0, ec0⟩ := List.mem_map.mp m1
      obtain ⟨j, cj, f1, f2, f3, f4⟩ := first_at (q := fun c => laneOf row c == fstLane p (cs.map (laneOf row))) ⟨c0, hc0, by rw [ec0]; exact beq_self_eq_true _⟩
      have fin : fstCar p row cs = cj := by unfold fstCar; rw [f4]; rfl
      refine ⟨_, rfl, _, rfl, .inl ⟨rfl, _, SqL.of hD⟩, _, rfl, _, rfl, _, rfl, D, _, rfl, .inr (SqL.of hD), [.ref a, lastV o], nVs (cs.map (laneOf row)), by rw [List.append_nil] <;> rfl, rfl, ?_, fun t ot ht hot => ?_⟩
      · rw [List.length_map, List.length_map, sizeLine_eq]; omega
      refine ⟨.ref a, R, o, .ref t, p, cs.map (laneOf row), rfl, ⟨a, xs, rfl, ta_ext ha (e1.put ht), tns_ext hp (e1.put ht)⟩, hR, ⟨t, rfl, .inr ⟨ot, upd_same⟩⟩, lp, by rw [List.length_map]; exact lc, by simpa using ne, fun x hx => ?_, hex, fun H' e => ?_⟩
      · obtain ⟨z, hz, rfl⟩ := List.mem_map.mp hx
        exact hlane z hz
      have e2 := (Ext.upd (o := .frz ot (.tup (nVs (cs.map (laneOf row))))) ht).trans e
      refine ⟨D, nVs (cs.map (laneOf row)), nV (fstLane p (cs.map (laneOf row))), j, nV (laneOf row cj), rfl, rfl, SqL.of (e2 _ _ hD), rfl, flat_nVs _, ?_, ?_, fun m z hm hz => ?_, ?_⟩
      · rw [List.getElem?_map, List.getElem?_map, f1]; rfl
      · rw [eq_of_beq f2]; exact beq_self_eq_true _
      · obtain ⟨y, hy, rfl⟩ := nVs_get hz
        rw [List.getElem?_map] at hy
        cases hcm : cs[m]? with
        | none => rw [hcm] at hy; cases hy
        | some c' =>
          rw [hcm] at hy
          have ey : laneOf row c' = y := Option.some.inj hy
          have nz := f3 m c' hm hcm
          rw [ey] at nz
          show ((y : Int) == (fstLane p (cs.map (laneOf row)) : Int)) = false
          have n2 : y ≠ fstLane p (cs.map (laneOf row)) := beq_eq_false_iff_ne.mp nz
          exact beq_eq_false_iff_ne.mpr (by omega)
      · refine ⟨c, _, (j : Int), nV cj, rfl, rfl, .inl (ta_ext hc (e1.trans e2)), atI_nat ?_, ?_⟩
        · rw [List.getElem?_map, f1]; rfl
        · rw [← fin]; exact q _ (e1.trans e2)
/-! ### check_lane, check_last, spot_of -/
def spCheckLane : Sp := fun vs H Q _ => ∃ a xs n, vs = [.ref a, nV n] ∧ Ta H a xs ∧ n + 1 < xs.length ∧ Q .non H
theorem sc_check_lane : FnScope ["rule", "lane"] ["rule", "lane"] (defScope (topSt 26)) := ⟨rfl, rfl, rfl, by decide +kernel, rfl, by decide +kernel, by decide +kernel⟩
theorem ok_check_lane (m : Md K mg) : OkD w K mg base 2 (He.ga K "check_lane") m.d_check_lane ["rule", "lane"] spCheckLane := by
  refine m.F_check_lane.ok sc_check_lane (fun vs H Q E h => ?_) (fun cdv A outer s H vs Q E hr h => ⟨_, PSs.nox (pss_one (ps_if (pt_not (pt_val (pe_call (ok_is_integer m) hr rfl m.g_is_integer m.F_is_integer.kp m.b_is_integer .nil pass0 (pa_cons (pv 1) (pa_cons pe_int (pa_cons (pe_op op_sub (pe_callB call_len_seq (by rfl) m.n_len PySem.boot_len (pa_cons (pv 0) pa_nil)) pe_int) pa_nil)))))) (pss_one ps_never) pss_nil)), ?_⟩)
  · obtain ⟨a, xs, n, rfl, _⟩ := h; rfl
  · obtain ⟨a, xs, n, rfl, ha, hn, q⟩ := h
    refine ⟨_, rfl, _, rfl, _, _, rfl, .inr (Or.inl ha), _, _, rfl, rfl, (n : Int), 0, _, rfl, true, congrArg V.bl (decide_eq_true (by omega)), ?_⟩
    exact iteF q
def spCheckLast : Sp := fun vs H Q _ => ∃ a xs o, vs = [.ref a, lastV o] ∧ Ta H a xs ∧ spot o < xs.length ∧ Q .non H
theorem sc_check_last : FnScope ["rule", "last"] ["rule", "last"] (defScope (topSt 27)) := ⟨rfl, rfl, rfl, by decide +kernel, rfl, by decide +kernel, by decide +kernel⟩
theorem ok_check_last (m : Md K mg) : OkD w K mg base 3 (He.ga K "check_last") m.d_check_last ["rule", "last"] spCheckLast := by
  refine m.F_check_last.ok sc_check_last (fun vs H Q E h => ?_) (fun cdv A outer s H vs Q E hr h => ⟨_, PSs.nox (pss_one (ps_if (pt_cmpR op_notN (pv 1) pe_non (nomark _)) (pss_one (ps_expr (pe_call (ok_check_lane m) hr rfl m.g_check_lane m.F_check_lane.kp m.b_check_lane .nil pass0 (pa_cons (pv 0) (pa_cons (pv 1) pa_nil))))) pss_nil)), ?_⟩)
  · obtain ⟨a, xs, o, rfl, _⟩ := h; rfl
  · obtain ⟨a, xs, o, rfl, ha, hn, q⟩ := h
    refine ⟨_, rfl, rfl, _, rfl, ?_⟩
    show if (!decide (lastV o = V.non)) = true then _ else _
    rw [lastV_none]
    cases o with
    | none => exact iteF q
    | some n => exact iteT ⟨_, rfl, _, rfl, a, xs, n, rfl, ha, hn, q⟩
def spSpotOf : Sp := fun vs H Q _ => ∃ o, vs = [lastV o] ∧ Q (nV (spot o)) H
theorem sc_spot_of : FnScope ["last"] ["last"] (defScope (topSt 28)) := ⟨rfl, rfl, rfl, by decide +kernel, rfl, by decide +kernel, by decide +kernel⟩
theorem ok_spot_of (m : Md K mg) : OkD w K mg base 1 (He.ga K "spot_of") m.d_spot_of ["last"] spSpotOf := by
  refine m.F_spot_of.ok sc_spot_of (fun vs H Q E h => ?_) (fun cdv A outer s H vs Q E hr h => ⟨_, PSs.nox (pss_one (ps_ret (pe_ifExp (pt_cmpR op_isN (pv 0) pe_non (nomark _)) pe_int (pe_op op_add pe_int (pv 0))))), ?_⟩)
  · obtain ⟨o, rfl, _⟩ := h; rfl
  · obtain ⟨o, rfl, q⟩ := h
    refine ⟨_, rfl, rfl, _, rfl, ?_⟩
    show if decide (lastV o = V.non) = true then _ else _
    rw [lastV_none]
    cases o with
    | none => exact iteT q
    | some n =>
      refine iteF ⟨_, rfl, _, _, rfl, rfl, ?_⟩
      have e : (1 : Int) + (n : Int) = ((n + 1 : Nat) : Int) := by omega
      show Q (.int ((1 : Int) + (n : Int))) H
      rw [e]; exact q
/-! ### lanes_ahead -/
def spAhead : Sp := fun vs H Q _ => ∃ v p l, vs = [v, nV l] ∧ Pf H v p ∧ l ∈ p ∧ p.length ≤ 60 ∧ ∀ b (m : List Nat) H', H b = Option.none → Ext H H' → m.Perm (p.takeWhile fun x => x != l) → H' b = some (.lst (nVs m)) → Q (.ref b) H'
theorem sc_lanes_ahead : FnScope ["preference", "lane"] ["preference", "lane"] (defScope (topSt 29)) := ⟨rfl, rfl, rfl, by decide +kernel, rfl, by decide +kernel, by decide +kernel⟩
theorem ok_lanes_ahead (m : Md K mg) : OkD w K mg base 1 (He.ga K "lanes_ahead") m.d_lanes_ahead ["preference", "lane"] spAhead := by
  refine m.F_lanes_ahead.ok sc_lanes_ahead (fun vs H Q E h => ?_) (fun cdv A outer s H vs Q E hr h => ⟨_, PSs.nox (pss_one (ps_ret (pe_callB cr_srtT (by rfl) m.n_sorted (by decide +kernel) (pa_cons (pe_slice sl_tupA (pv 0) po_none (po_some (pe_tm PySem.F.plainAttrs_tuple PySem.F.slot_tuple_index PySem.F.type_tuple_index mt_tidx (pv 0) (pa_cons (pv 1) pa_nil)))) pa_nil)))), ?_⟩)
  · obtain ⟨v, p, l, rfl, _⟩ := h; rfl
  · obtain ⟨v, p, l, rfl, ⟨a, oa, rfl, ha, hoa⟩, hl, hp, q⟩ := h
    obtain ⟨j, hj1, hj2, hj3⟩ : ∃ j, p[j]? = some l ∧ (∀ k, k < j → p[k]? ≠ some l) ∧ p.take j = p.takeWhile fun x => x != l := by
      clear q ha hp
      induction p with
      | nil => cases hl
      | cons x r ih =>
        by_cases hx : x = l
        · refine ⟨0, by rw [hx]; rfl, fun k hk => by omega, ?_⟩
          rw [List.takeWhile_cons]; simp [hx]
        · obtain ⟨j, h1, h2, h3⟩ := ih (by
            rcases List.mem_cons.mp hl with z | z
            · exact absurd z.symm hx
            · exact z)
          refine ⟨j + 1, h1, fun k hk => ?_, ?_⟩
          · cases k with
            | zero => simpa using hx
            | succ k => exact h2 k (by omega)
          · rw [List.takeWhile_cons, List.take_succ_cons, h3]; simp [hx]
    have jl : j < p.length := (List.getElem?_eq_some_iff.mp hj1).1
    have cst : ∀ (k : Nat) (z : Nat), (p.map fun n : Nat => (n : Int))[k]? = some (z : Int) ↔ p[k]? = some z := fun k z => by
      rw [List.getElem?_map]
      cases p[k]? with
      | none => simp
      | some y => simp; omega
    refine ⟨_, rfl, _, rfl, ⟨a, oa, _, rfl, ha, hoa⟩, _, rfl, a, p.map (fun n : Nat => (n : Int)), (l : Int), j, rfl, rfl, .inl (.inr ⟨oa, by rw [ha, nVs_int]⟩), (cst j l).mpr hj1, fun k hk z => hj2 k hk ((cst k l).mp z), ?_⟩
    have len : (nVs p).length = p.length := List.length_map ..
    dsimp only [tNoPart]
    refine ⟨_, rfl, sl_any (.inr ⟨oa, ha⟩) fun v1 H1 e1 ⟨b, hb1, hb⟩ => ?_⟩
    subst hb1
    rw [cut_to _ _ (by rw [len]; omega), nVs_take, hj3, nVs_int] at hb
    refine ⟨b, _, rfl, .inl hb, ?_, fun ns' d perm pw hd => ?_⟩
    · rw [List.length_map]
      have := (List.takeWhile_sublist (fun x => x != l) (l := p)).length_le
      omega
    · have nn : ns' = (ns'.map Int.toNat).map fun n : Nat => (n : Int) := by
        rw [List.map_map]
        symm
        refine (List.map_congr_left fun x hx => ?_).trans (List.map_id _)
        obtain ⟨y, _, rfl⟩ := List.mem_map.mp (perm.mem_iff.mp hx)
        show ((y : Int).toNat : Int) = y
        omega
      refine q d (ns'.map Int.toNat) _ (e1.none hd) (e1.put hd) ?_ (by rw [upd_same, nVs_int, ← nn])
      have pm := perm.map Int.toNat
      rw [List.map_map] at pm
      refine pm.trans (List.Perm.of_eq ((List.map_congr_left fun x _ => ?_).trans (List.map_id _)))
      show (x : Int).toNat = x
      omega
end
end GG
/-! D4: days: word_error, check_word, steps_of. -/
namespace GG
open PySem
open PySem.Spec
open PyProof.Rows
open L2
open RR
open StX

/-! ### words -/
def sgn (b : Bool) : Nat := if b then 97 else 112
/-- the text of a word; true: an arrival -/
def wordS (bs : List Bool) : Str := ⟨(bs.map sgn).toArray⟩
def sgS (b : Bool) : Str := ⟨#[sgn b]⟩
/-- a word that may stand before a row of m cars: a arrivals, p passings so far -/
def Valid (m : Nat) : Nat → Nat → List Bool → Prop
  | _, _, [] => True
  | a, p, true :: r => a < m ∧ Valid m (a + 1) p r
  | a, p, false :: r => p < a ∧ Valid m a (p + 1) r
theorem word_at (bs : List Bool) (i : Nat) : (wordS bs).cps[i]? = (bs[i]?).map sgn := by simp [wordS]
theorem word_size (bs : List Bool) : (wordS bs).cps.size = bs.length := by simp [wordS]
theorem sgS_ne (b : Bool) : decide (V.str (sgS b) = V.str "a") = b := by cases b <;> decide
theorem sgP_ne (b : Bool) : decide (V.str (sgS b) = V.str "p") = !b := by cases b <;> decide

/-! ### how often a sign stands in a text -/
theorem sub_one (s : Str) (c i : Nat) : Builtin.Str.subAt s ⟨#[c]⟩ i = decide (s.cps[i]? = some c) := by
  unfold Builtin.Str.subAt
  show (s.cps.extract i (i + 1) == #[c]) = _
  rw [Bool.eq_iff_iff, beq_iff_eq, decide_eq_true_eq]
  constructor
  · intro h
    have h2 : (s.cps.extract i (i + 1))[0]? = some c := by rw [h]; rfl
    rw [Array.getElem?_extract] at h2
    split at h2
    · simpa using h2
    · cases h2
  · intro h
    obtain ⟨hl, he⟩ := Array.getElem?_eq_some_iff.mp h
    apply Array.ext
    · simp; omega
    · intro j h1 h2
      have : j = 0 := by simp at h2; omega
      subst this
      simpa using he
theorem occ_many (s : Str) (c hi limit : Nat) : ∀ (l : List Nat) (st : Array Nat × Nat), (∀ i ∈ l, st.2 ≤ i) → l.Pairwise (· < ·) → st.1.size + l.length ≤ limit →
    (forIn l st (StrLaws.occBody s ⟨#[c]⟩ hi limit)).run.fst.size = st.1.size + l.countP (fun i => decide (i + 1 ≤ hi ∧ s.cps[i]? = some c))
  | [], st, _, _, _ => by simp
  | a :: l, st, hf, hp, hz => by
    rw [List.forIn_cons]
    unfold StrLaws.occBody
    obtain ⟨p1, p2⟩ := List.pairwise_cons.mp hp
    have fa := hf a List.mem_cons_self
    rw [List.length_cons] at hz
    by_cases hc : a + 1 ≤ hi ∧ s.cps[a]? = some c
    · have cond : ((st.1.size < limit ∧ st.2 ≤ a) ∧ a + (⟨#[c]⟩ : Str).length ≤ hi) ∧ Builtin.Str.subAt s ⟨#[c]⟩ a = true := ⟨⟨⟨by omega, fa⟩, hc.1⟩, by rw [sub_one]; exact decide_eq_true hc.2⟩
      rw [if_pos cond]
      have ih := occ_many s c hi limit l (st.1.push a, a + 1) (fun i hi' => p1 i hi') p2 (by rw [Array.size_push]; omega)
      refine Eq.trans ih ?_
      rw [Array.size_push, List.countP_cons, if_pos (by simpa using hc)]
      omega
    · have cond : ¬ (((st.1.size < limit ∧ st.2 ≤ a) ∧ a + (⟨#[c]⟩ : Str).length ≤ hi) ∧ Builtin.Str.subAt s ⟨#[c]⟩ a = true) := fun z => hc ⟨z.1.2, by have := z.2; rw [sub_one] at this; exact of_decide_eq_true this⟩
      rw [if_neg cond]
      have ih := occ_many s c hi limit l st (fun i hi' => hf i (List.mem_cons_of_mem _ hi')) p2 (by omega)
      refine Eq.trans ih ?_
      rw [List.countP_cons, if_neg (by simpa using hc)]
      omega
theorem count_range (bs : List Bool) : ∀ k, ((List.range' 0 k).countP fun i => decide (i + 1 ≤ bs.length ∧ (wordS bs).cps[i]? = some 97)) = (bs.take k).count true
  | 0 => by simp
  | k + 1 => by
    rw [List.range'_concat, List.countP_append, count_range bs k, List.take_add_one, List.count_append]
    congr 1
    simp only [Nat.zero_add, Nat.one_mul, List.countP_cons, List.countP_nil, Nat.zero_add]
    rw [word_at]
    cases h : bs[k]? with
    | none => simp
    | some b =>
      have hl : k < bs.length := (List.getElem?_eq_some_iff.mp h).1
      cases b
      · simp [sgn]
      · simp [sgn]; omega
theorem word_count (bs : List Bool) : PySem.Txt.count (wordS bs) "a" = ((bs.count true : Nat) : Int) := by
  unfold PySem.Txt.count
  rw [StrLaws.occ_eq]
  have e : (wordS bs).length = bs.length := word_size bs
  have ea : ("a" : Str) = ⟨#[97]⟩ := by decide
  have h := occ_many (wordS bs) 97 bs.length (bs.length + 1) (List.range' 0 (bs.length + 1)) (#[], 0) (fun i _ => Nat.zero_le i) (List.pairwise_lt_range') (by simp)
  rw [e, ea, Array.length_toList, Nat.sub_zero, h, count_range, List.take_of_length_le (by omega)]
  simp

/-! ### loops over an iterator that counts to n -/
theorem for_ite {n : Nat} {rel : Nat → V → Prop} {g : TG} {tb : TS} {D : Ends} {σ : L2.St} {H : Hp} (Pv : Nat → L2.St → Hp → Prop) (h0 : Pv 0 σ H)
    (hs : ∀ i σ H T y, i < n → Pv i σ H → H T = none → rel i y → g (.ref T) σ (L2.upd H T (.tup [.int (i : Nat), y])) fun σ2 H2 => tb { D with nx := Pv (i + 1), ct := Pv (i + 1), bk := D.nx } σ2 H2) (hd : ∀ σ H, Pv n σ H → D.nx σ H) :
    ∃ W : Nat → Nat → L2.St → Hp → Prop, (∃ m, W 0 m σ H) ∧ ∀ i m σ H, W i m σ H →
      ((IteN n rel).stop i H ∧ D.nx σ H) ∨ ((IteN n rel).go i H ∧ ∃ N : L2.St → Hp → Prop, (∀ σ' H', N σ' H' → ∃ m', m' < m ∧ W (i + 1) m' σ' H') ∧ ∀ x H', (IteN n rel).yld i H x H' → g x σ H' fun σ2 H2 => tb { D with nx := N, ct := N, bk := D.nx } σ2 H2) := by
  refine ⟨fun i m σ H => m = n - i ∧ i ≤ n ∧ Pv i σ H, ⟨n, by simp, Nat.zero_le _, h0⟩, ?_⟩
  rintro i m σ H ⟨rfl, hi, p⟩
  by_cases lt : i < n
  · refine .inr ⟨lt, Pv (i + 1), fun σ' H' p' => ⟨n - (i + 1), by omega, rfl, lt, p'⟩, fun x H' ⟨T, y, e1, e2, e3, e4⟩ => ?_⟩
    subst e1 e3
    exact hs i σ H T y lt p e2 e4
  · obtain rfl : i = n := by omega
    exact .inl ⟨rfl, hd σ H p⟩
theorem lc_ite {n : Nat} {rel : Nat → V → Prop} {g : TG} {tt : TT} {te : TE} {vs : List Nat} {σ : L2.St} {H1 : Hp} {D : Addr} {Qd : Hp → Prop} (Pv : Nat → Hp → Prop) (h0 : Pv 0 (L2.upd H1 D (.lst [])))
    (hs : ∀ i H T z, i < n → Pv i H → H T = none → rel i z → g (.ref T) (wipe σ vs) (L2.upd H T (.tup [.int (i : Nat), z])) fun σ2 H2 => wipe σ2 vs = wipe σ vs ∧ tt σ2 H2 fun b H3 =>
      if b = true then te σ2 H3 fun y H4 => ∃ acc, H4 D = some (.lst acc) ∧ acc.length < sizeLine ∧ Pv (i + 1) (L2.upd H4 D (.lst (acc ++ [y]))) else Pv (i + 1) H3) (hd : ∀ H, Pv n H → Qd H) :
    ∃ W : Nat → Nat → Hp → Prop, (∃ m, W 0 m (L2.upd H1 D (.lst []))) ∧ ∀ i m H, W i m H →
      ((IteN n rel).stop i H ∧ Qd H) ∨ ((IteN n rel).go i H ∧ ∃ Nx : Hp → Prop, (∀ H', Nx H' → ∃ m', m' < m ∧ W (i + 1) m' H') ∧ ∀ x H', (IteN n rel).yld i H x H' → g x (wipe σ vs) H' fun σ2 H2 => wipe σ2 vs = wipe σ vs ∧ tt σ2 H2 fun b H3 =>
        if b = true then te σ2 H3 fun y H4 => ∃ acc, H4 D = some (.lst acc) ∧ acc.length < sizeLine ∧ Nx (L2.upd H4 D (.lst (acc ++ [y]))) else Nx H3) := by
  refine ⟨fun i m H => m = n - i ∧ i ≤ n ∧ Pv i H, ⟨n, by simp, Nat.zero_le _, h0⟩, ?_⟩
  rintro i m H ⟨rfl, hi, p⟩
  by_cases lt : i < n
  · refine .inr ⟨lt, Pv (i + 1), fun H' p' => ⟨n - (i + 1), by omega, rfl, lt, p'⟩, fun x H' ⟨T, y, e1, e2, e3, e4⟩ => ?_⟩
    subst e1 e3
    exact hs i H T y lt p e2 e4
  · obtain rfl : i = n := by omega
    exact .inl ⟨rfl, hd H p⟩
theorem for_its {x : Str} {g : TG} {tb : TS} {D : Ends} {σ : L2.St} {H : Hp} (Pv : Nat → L2.St → Hp → Prop) (h0 : Pv 0 σ H)
    (hs : ∀ i σ H c, x.cps[i]? = some c → Pv i σ H → g (.str ⟨#[c]⟩) σ H fun σ2 H2 => tb { D with nx := Pv (i + 1), ct := Pv (i + 1), bk := D.nx } σ2 H2) (hd : ∀ σ H, Pv x.cps.size σ H → D.nx σ H) :
    ∃ W : Nat → Nat → L2.St → Hp → Prop, (∃ m, W 0 m σ H) ∧ ∀ i m σ H, W i m σ H →
      ((Its x).stop i H ∧ D.nx σ H) ∨ ((Its x).go i H ∧ ∃ N : L2.St → Hp → Prop, (∀ σ' H', N σ' H' → ∃ m', m' < m ∧ W (i + 1) m' σ' H') ∧ ∀ v H', (Its x).yld i H v H' → g v σ H' fun σ2 H2 => tb { D with nx := N, ct := N, bk := D.nx } σ2 H2) := by
  refine ⟨fun i m σ H => m = x.cps.size - i ∧ i ≤ x.cps.size ∧ Pv i σ H, ⟨_, rfl, Nat.zero_le _, h0⟩, ?_⟩
  rintro i m σ H ⟨rfl, hi, p⟩
  by_cases lt : i < x.cps.size
  · refine .inr ⟨lt, Pv (i + 1), fun σ' H' p' => ⟨x.cps.size - (i + 1), by omega, rfl, lt, p'⟩, fun v H' ⟨e, c, hc, ev⟩ => ?_⟩
    subst e ev
    exact hs i σ _ c hc p
  · obtain rfl : i = x.cps.size := by omega
    exact .inl ⟨Nat.le_refl _, hd σ H p⟩

section
variable {w : World} {K : PySem.W.Frag} {mg : Str → Option Value} {base : Heap}
/-! ### word_error, check_word -/
def spWordErr : Sp := fun vs H Q _ => ∃ a xs bs, vs = [.ref a, .str (wordS bs)] ∧ Ta H a xs ∧ Valid xs.length 0 0 bs ∧ bs.length ≤ 900 ∧ ∀ H', Ext H H' → Q .non H'
theorem sc_word_error : FnScope ["row", "value", "at", "letter", "wrong", "arrivals", "passings"] ["row", "value"] (defScope (topSt 21)) := ⟨rfl, rfl, rfl, by decide +kernel, rfl, by decide +kernel, by decide +kernel⟩
theorem ok_word_error (m : Md K mg) : OkD w K mg base 1 (He.ga K "word_error") m.d_word_error ["row", "value"] spWordErr := by
  obtain ⟨ta, hA⟩ := m.arrival
  obtain ⟨tp, hP⟩ := m.passing
  refine m.F_word_error.ok sc_word_error (fun vs H Q E h => ?_) (fun cdv A outer s H vs Q E hr h => ⟨_, PSs.nox (pss_cons (ps_if (pt_not (pt_val (pe_callB call_isi (by rfl) m.n_isinstance (by decide +kernel) (pa_cons (pv 1) (pa_cons (pe_bltn (v := .ty "str") (u := .type "str") (by rfl) m.n_str (by decide +kernel) rfl) pa_nil))))) (pss_one ps_never) pss_nil)
    (pss_cons (ps_setLc (i := 4) (own := [("at", 2), ("letter", 3)]) (g := gTup K 2 (gCons (gName 2) (gCons (gName 3) gNil))) (tt := tTest (tOp (rIn K true) (tVar 3) (tTup (tCons (tC (.str "a")) (tCons (tC (.str "p")) tNil))))) rfl sc_word_error.nd rfl rfl (sw_true rfl rfl rfl (by decide +kernel)) (pi_enumS (by rfl) m.n_enumerate (pv 1))
        (blkOk_by (own := [("at", 2), ("letter", 3)]) (N := ["row", "value", "at", "letter", "wrong", "arrivals", "passings"]) (sc := defScope (topSt 21)) (by decide +kernel)) (fun _ _ _ _ _ => pg_tup rfl (pgs_cons (pg_name (i := 2) sc_word_error.nd rfl (Or.inl rfl)) (pgs_cons (pg_name (i := 3) sc_word_error.nd rfl (Or.inl rfl)) pgs_nil)))
        (fun _ _ _ _ _ => pts_one (pt_cmpR op_notIn_seq (pv 3) (pe_tup (pa_cons (pe_glob (v := .str "a") (by rfl) hA ⟨_, rfl⟩) (pa_cons (pe_glob (v := .str "p") (by rfl) hP ⟨_, rfl⟩) pa_nil))) (by rfl))) (fun _ _ _ _ _ => pv 2))
    (pss_cons (ps_if (pt_cmpR (op_neD hr.units) (pv 4) (pe_lst pa_nil) (nomark _)) (pss_one ps_never) pss_nil)
    (pss_cons (ps_asg (pe_tup (pa_cons pe_int (pa_cons pe_int pa_nil))) (pg_tup rfl (pgs_cons (pg_name (i := 5) sc_word_error.nd rfl (Or.inl rfl)) (pgs_cons (pg_name (i := 6) sc_word_error.nd rfl (Or.inl rfl)) pgs_nil))))
    (pss_cons (ps_for PassesOwn.never rfl (pi_enumS (by rfl) m.n_enumerate (pv 1)) (pg_tup rfl (pgs_cons (pg_name (i := 2) sc_word_error.nd rfl (Or.inl rfl)) (pgs_cons (pg_name (i := 3) sc_word_error.nd rfl (Or.inl rfl)) pgs_nil)))
        (pss_one (ps_if (pt_cmpR op_eq (pv 3) (pe_glob (v := .str "a") (by rfl) hA ⟨_, rfl⟩) (nomark _))
          (pss_cons (ps_if (pt_cmpR op_eq (pv 5) (pe_callB call_len_seq (by rfl) m.n_len PySem.boot_len (pa_cons (pv 0) pa_nil)) (nomark _)) (pss_one ps_never) pss_nil) (pss_one (ps_aug (i := 5) sc_word_error.nd rfl (Or.inl rfl) pe_int ip_add)))
          (pss_cons (ps_if (pt_cmpR op_eq (pv 6) (pv 5) (nomark _)) (pss_one ps_never) pss_nil) (pss_one (ps_aug (i := 6) sc_word_error.nd rfl (Or.inl rfl) pe_int ip_add))))))
    (pss_one (ps_ret pe_non))))))), ?_⟩)
  · obtain ⟨a, xs, bs, rfl, _⟩ := h; rfl
  · obtain ⟨a, xs, bs, rfl, ha, val, len, q⟩ := h
    refine ⟨_, rfl, _, _, _, _, _, rfl, .ty "str", .base (.str _), typ_str, true, rfl, ?_⟩
    refine iteF ⟨_, rfl, wordS bs, rfl, fun D new => lc_ite (LcP H D fun i acc _ => acc = []) (LcP.start new rfl) (fun i H1 T z hi p hT rz => ?_) fun H1 p => ?_⟩
    · obtain ⟨e1, acc, hD, hacc, hp⟩ := p
      obtain ⟨c, hc, rfl⟩ := rz
      rw [word_size] at hi
      obtain ⟨b, hb, rfl⟩ : ∃ b, bs[i]? = some b ∧ sgn b = c := by
        rw [word_at] at hc
        cases hb : bs[i]? with
        | none => rw [hb] at hc; cases hc
        | some b => rw [hb] at hc; exact ⟨b, rfl, Option.some.inj hc⟩
      refine ⟨T, _, rfl, SqT.of upd_same, rfl, _, _, rfl, _, _, rfl, rfl, rfl, _, rfl, by show 2 ≤ sizeLine; decide, fun t ht => ?_⟩
      refine ⟨t, _, rfl, .inr (SqT.of upd_same), rfl, rfl, false, ?_, ?_⟩
      · cases b <;> rfl
      · exact iteF (LcP.skip e1 hD hacc ((Ext.upd hT).put ht) hp)
    · obtain ⟨e1, acc, hD, hacc, hp⟩ := p
      subst hp
      refine ⟨_, rfl, by show 0 ≤ sizeLine; decide, fun l hl => ⟨.list [], .list [], .lst (SqL.of (Ext.upd hl _ _ hD)) .nil, .lst (SqL.of upd_same) .nil, rfl, rfl, false, rfl, ?_⟩⟩
      have e2 : Ext H (L2.upd H1 l (.lst [])) := e1.put hl
      generalize L2.upd H1 l (.lst []) = H2 at e2
      refine iteF ⟨by show 2 ≤ sizeLine; decide, fun t ht => ⟨t, _, rfl, SqT.of upd_same, rfl, _, _, rfl, _, _, rfl, rfl, ?_⟩⟩
      have e3 : Ext H (L2.upd H2 t (.tup [.int 0, .int 0])) := e2.put ht
      generalize L2.upd H2 t (.tup [.int 0, .int 0]) = H3 at e3
      refine ⟨_, rfl, wordS bs, rfl, for_ite (fun i σ' H' => Ext H H' ∧ ∃ x2 x3 x4 ar ps, σ' = [some (V.ref a), some (V.str (wordS bs)), x2, x3, x4, some (nV ar), some (nV ps)] ∧ Valid xs.length ar ps (bs.drop i)) ⟨e3, _, _, _, 0, 0, rfl, val⟩ (fun i σ' H' T z hi p hT rz => ?_) fun σ' H' p => ?_⟩
      · obtain ⟨e4, x2, x3, x4, ar, ps, rfl, vl⟩ := p
        obtain ⟨c, hc, rfl⟩ := rz
        rw [word_size] at hi
        obtain ⟨b, hb, rfl⟩ : ∃ b, bs[i]? = some b ∧ sgn b = c := by
          rw [word_at] at hc
          cases hb : bs[i]? with
          | none => rw [hb] at hc; cases hc
          | some b => rw [hb] at hc; exact ⟨b, rfl, Option.some.inj hc⟩
        have dr : bs.drop i = b :: bs.drop (i + 1) := by
          rw [List.drop_eq_getElem_cons hi]
          congr 1
          rw [List.getElem?_eq_getElem hi] at hb
          exact Option.some.inj hb
        rw [dr] at vl
        have e5 : Ext H (L2.upd H' T (.tup [.int (i : Nat), .str (sgS b)])) := e4.put hT
        refine ⟨T, _, rfl, SqT.of upd_same, rfl, _, _, rfl, _, _, rfl, rfl, _, rfl, rfl, _, rfl, ?_⟩
        show if decide (V.str (sgS b) = V.str "a") = true then _ else _
        rw [sgS_ne]
        cases b with
        | true =>
          obtain ⟨v1, v2⟩ := vl
          have hne : decide (nV ar = V.int (xs.length : Nat)) = false := decide_eq_false fun z => by injection z with z; omega
          refine iteT ⟨_, rfl, _, rfl, _, _, rfl, .inr (.inl (ta_ext ha e5)), rfl, _, rfl, ?_⟩
          show if decide (nV ar = V.int (xs.length : Nat)) = true then _ else _
          rw [hne]
          exact iteF ⟨_, rfl, _, _, rfl, rfl, e5, _, _, _, ar + 1, ps, rfl, v2⟩
        | false =>
          obtain ⟨v1, v2⟩ := vl
          have hne : decide (nV ps = nV ar) = false := decide_eq_false fun z => by injection z with z; omega
          refine iteF ⟨_, rfl, _, rfl, rfl, _, rfl, ?_⟩
          show if decide (nV ps = nV ar) = true then _ else _
          rw [hne]
          exact iteF ⟨_, rfl, _, _, rfl, rfl, e5, _, _, _, ar, ps + 1, rfl, v2⟩
      · exact q _ p.1
end
end GG
/-! D5: check_word, steps_of. -/
namespace GG
open PySem
open PySem.Spec
open PyProof.Rows
open L2
open RR
open StX

/-! ### the day, mirrored -/
structure Day where
  come : Nat
  waiting : List Nat
  last : Option Nat
/-- arrival?, the car, who waits behind -/
abbrev Item : Type := Bool × Nat × List Nat
def dayStep (R : List (List Nat)) (row : List Nat) (d : Day) : Bool → Item × Day
  | true => ((true, d.come, d.waiting ++ [d.come]), ⟨d.come + 1, d.waiting ++ [d.come], d.last⟩)
  | false =>
    let c := fstCar ((R[spot d.last]?).getD []) row d.waiting
    ((false, c, d.waiting.filter fun x => x != c), ⟨d.come, d.waiting.filter fun x => x != c, some (laneOf row c)⟩)
def dayRun (R : List (List Nat)) (row : List Nat) : Day → List Bool → List Item
  | _, [] => []
  | d, b :: r => (dayStep R row d b).1 :: dayRun R row (dayStep R row d b).2 r
def dayEnd (R : List (List Nat)) (row : List Nat) : Day → List Bool → Day
  | d, [] => d
  | d, b :: r => dayEnd R row (dayStep R row d b).2 r
def day0 : Day := ⟨0, [], none⟩
/-- a rule of n lanes -/
def Good (n : Nat) (R : List (List Nat)) : Prop := 1 ≤ n ∧ n ≤ 6 ∧ R.length = n + 1 ∧ ∀ p ∈ R, Prm p n
/-- what holds of the day: nobody waits twice, who waits has come, the last one that passed was of some lane -/
structure DayOk (n : Nat) (row : List Nat) (d : Day) (a p : Nat) : Prop where
  come : d.come = a
  count : d.waiting.length + p = a
  nd : d.waiting.Nodup
  lt : ∀ c ∈ d.waiting, c < d.come
  last : ∀ l, d.last = some l → l < n
theorem nodup_le : ∀ {l m : List Nat}, l.Nodup → (∀ x ∈ l, x ∈ m) → l.length ≤ m.length
  | [], _, _, _ => Nat.zero_le _
  | a :: r, m, hl, hm => by
    obtain ⟨h1, h2⟩ := List.nodup_cons.mp hl
    have ha := hm a List.mem_cons_self
    have ih := nodup_le (l := r) (m := m.erase a) h2 fun x hx => (List.mem_erase_of_ne (show x ≠ a from fun z => h1 (by rw [← z]; exact hx))).mpr (hm x (List.mem_cons_of_mem _ hx))
    rw [List.length_erase_of_mem ha] at ih
    have : 0 < m.length := List.length_pos_of_mem ha
    simp only [List.length_cons]
    omega
theorem prm_mem {l : List Nat} {n x : Nat} (h : Prm l n) (hx : x < n) : x ∈ l := by
  obtain ⟨h1, h2, h3⟩ := h
  refine Classical.byContradiction fun hn => ?_
  have hs : (x :: l).Nodup := List.nodup_cons.mpr ⟨hn, h3⟩
  have le : (x :: l).length ≤ (List.range n).length := nodup_le hs fun y hy => by
    rcases List.mem_cons.mp hy with rfl | hy
    · exact List.mem_range.mpr hx
    · exact List.mem_range.mpr (h2 y hy)
  rw [List.length_cons, List.length_range, h1] at le
  omega
theorem good_at {n : Nat} {R : List (List Nat)} (g : Good n R) {o : Option Nat} (h : ∀ l, o = some l → l < n) : ∃ p, R[spot o]? = some p ∧ Prm p n := by
  have lt : spot o < R.length := by
    rw [g.2.2.1]
    cases o with
    | none => show 0 < n + 1; omega
    | some l => have := h l rfl; show l + 1 < n + 1; omega
  exact ⟨_, List.getElem?_eq_getElem lt, g.2.2.2 _ (List.getElem_mem lt)⟩
/-- who passes: one of those who wait -/
theorem fstCar_mem {p row cs : List Nat} (ne : cs ≠ []) (hin : ∀ c ∈ cs, laneOf row c ∈ p) : fstCar p row cs ∈ cs ∧ laneOf row (fstCar p row cs) = fstLane p (cs.map (laneOf row)) := by
  have hex : ∃ x ∈ p, x ∈ cs.map (laneOf row) := by
    cases cs with
    | nil => exact absurd rfl ne
    | cons z zs => exact ⟨laneOf row z, hin z List.mem_cons_self, List.mem_map.mpr ⟨z, List.mem_cons_self, rfl⟩⟩
  obtain ⟨c0, hc0, ec0⟩ := List.mem_map.mp (fstLane_mem hex).1
  obtain ⟨j, cj, f1, f2, f3, f4⟩ := first_at (q := fun c => laneOf row c == fstLane p (cs.map (laneOf row))) ⟨c0, hc0, by rw [ec0]; exact beq_self_eq_true _⟩
  have e : fstCar p row cs = cj := by unfold fstCar; rw [f4]; rfl
  rw [e]
  exact ⟨List.mem_of_getElem? f1, eq_of_beq f2⟩
theorem laneOf_mem {row : List Nat} {c : Nat} (h : c < row.length) : laneOf row c ∈ row := by
  unfold laneOf
  rw [List.getD_eq_getElem?_getD, List.getElem?_eq_getElem h]
  exact List.getElem_mem h
theorem filter_len {l : List Nat} {c : Nat} (nd : l.Nodup) (h : c ∈ l) : (l.filter fun x => x != c).length + 1 = l.length := by
  induction l with
  | nil => cases h
  | cons a r ih =>
    obtain ⟨h1, h2⟩ := List.nodup_cons.mp nd
    by_cases e : a = c
    · subst e
      have : r.filter (fun x => x != a) = r := List.filter_eq_self.mpr fun x hx => by
        have : x ≠ a := fun z => h1 (z ▸ hx)
        simpa using this
      simp [this]
    · have hr : c ∈ r := by
        rcases List.mem_cons.mp h with z | z
        · exact absurd z.symm e
        · exact z
      rw [List.filter_cons, if_pos (by simpa using e), List.length_cons, List.length_cons, ih h2 hr]
theorem day_ok {n m : Nat} {R : List (List Nat)} {row : List Nat} (g : Good n R) (hm : row.length = m) (hrow : ∀ x ∈ row, x < n) {d : Day} {a p : Nat} {b : Bool} {r : List Bool} (ok : DayOk n row d a p) (le : a ≤ m) (v : Valid m a p (b :: r)) :
    ∃ a' p', DayOk n row (dayStep R row d b).2 a' p' ∧ a' ≤ m ∧ Valid m a' p' r ∧ (b = false → d.waiting ≠ []) := by
  cases b with
  | true =>
    obtain ⟨v1, v2⟩ := v
    refine ⟨a + 1, p, ⟨by show d.come + 1 = _; rw [ok.come], ?_, ?_, ?_, ok.last⟩, v1, v2, fun z => by cases z⟩
    · show (d.waiting ++ [d.come]).length + p = _
      have := ok.count
      rw [List.length_append, List.length_singleton]; omega
    · refine List.nodup_append.mpr ⟨ok.nd, List.nodup_cons.mpr ⟨by simp, List.nodup_nil⟩, fun x hx y hy => ?_⟩
      rw [List.mem_singleton] at hy
      have := ok.lt x hx
      omega
    · intro c hc
      show c < d.come + 1
      rcases List.mem_append.mp hc with z | z
      · have := ok.lt c z; omega
      · rw [List.mem_singleton.mp z]; omega
  | false =>
    obtain ⟨v1, v2⟩ := v
    have ne : d.waiting ≠ [] := fun z => by
      have := ok.count
      rw [z] at this
      simp at this
      omega
    obtain ⟨pf, h1, h2⟩ := good_at (R := R) g ok.last
    have hin : ∀ c ∈ d.waiting, laneOf row c ∈ pf := fun c hc => prm_mem h2 (hrow _ (laneOf_mem (by have := ok.lt c hc; have := ok.come; omega)))
    obtain ⟨q1, q2⟩ := fstCar_mem (row := row) ne hin
    have ep : (R[spot d.last]?).getD [] = pf := by rw [h1]; rfl
    refine ⟨a, p + 1, ⟨ok.come, ?_, ?_, ?_, ?_⟩, le, v2, fun _ => ne⟩
    · show (d.waiting.filter fun x => x != fstCar ((R[spot d.last]?).getD []) row d.waiting).length + (p + 1) = a
      rw [ep]
      have := filter_len ok.nd q1
      have := ok.count
      omega
    · exact ok.nd.sublist List.filter_sublist
    · exact fun c hc => ok.lt c (List.mem_filter.mp hc).1
    · intro l hl
      have hl' : some (laneOf row (fstCar ((R[spot d.last]?).getD []) row d.waiting)) = some l := hl
      rw [ep] at hl'
      cases hl'
      exact hrow _ (laneOf_mem (by have := ok.lt _ q1; have := ok.come; omega))

section
variable {w : World} {K : PySem.W.Frag} {mg : Str → Option Value} {base : Heap}
theorem sc_check_word : FnScope ["row", "value", "error"] ["row", "value"] (defScope (topSt 24)) := ⟨rfl, rfl, rfl, by decide +kernel, rfl, by decide +kernel, by decide +kernel⟩
theorem ok_check_word (m : Md K mg) : OkD w K mg base 2 (He.ga K "check_word") m.d_check_word ["row", "value"] spWordErr := by
  refine m.F_check_word.ok sc_check_word (fun vs H Q E h => ?_) (fun cdv A outer s H vs Q E hr h => ⟨_, PSs.nox (pss_cons (ps_set (i := 2) sc_check_word.nd rfl (Or.inl rfl) (pe_call (ok_word_error m) hr rfl m.g_word_error m.F_word_error.kp m.b_word_error .nil pass0 (pa_cons (pv 0) (pa_cons (pv 1) pa_nil))))
    (pss_one (ps_if (pt_cmpR op_notN (pv 2) pe_non (nomark _)) (pss_one ps_never) pss_nil))), ?_⟩)
  · obtain ⟨a, xs, bs, rfl, _⟩ := h; rfl
  · obtain ⟨a, xs, bs, rfl, ha, val, len, q⟩ := h
    exact ⟨_, rfl, _, rfl, a, xs, bs, rfl, ha, val, len, fun H' e => ⟨_, rfl, rfl, _, rfl, iteF (q H' e)⟩⟩

/-! ### steps_of -/
def It3 (H : Hp) (v : V) (i : Item) : Prop := ∃ t wv, v = .ref t ∧ H t = some (.tup [.str (sgS i.1), nV i.2.1, wv]) ∧ Tn H wv i.2.2
theorem It3.extT {H H' : Hp} {v : V} {i : Item} (h : It3 H v i) (e : ExtT H H') : It3 H' v i := let ⟨t, wv, h1, h2, h3⟩ := h; ⟨t, wv, h1, e _ _ (fun _ z => by cases z) h2, h3.extT e⟩
abbrev Its3 (H : Hp) (vs : List V) (is : List Item) : Prop := Paired (It3 H) vs is
theorem its3_extT {H H' : Hp} {vs : List V} {is : List Item} (h : Its3 H vs is) (e : ExtT H H') : Its3 H' vs is := L2.Paired.mapP h fun _ _ k => k.extT e
def spSteps : Sp := fun vs H Q _ => ∃ r R n rv row bs, vs = [r, rv, .str (wordS bs)] ∧ Tt H r R ∧ Good n R ∧ Tn H rv row ∧ (∀ x ∈ row, x < n) ∧ row.length ≤ 300 ∧ Valid row.length 0 0 bs ∧ bs.length ≤ 900 ∧
  ∀ D vs' H', H D = none → Ext H H' → H' D = some (.lst vs') → Its3 H' vs' (dayRun R row day0 bs) → Q (.ref D) H'
theorem sc_steps_of : FnScope ["rule", "row", "word", "found", "waiting", "come", "last", "letter", "car", "passing", "other"] ["rule", "row", "word"] (defScope (topSt 23)) := ⟨rfl, rfl, rfl, by decide +kernel, rfl, by decide +kernel, by decide +kernel⟩
theorem ok_steps_of (m : Md K mg) : OkD w K mg base 6 (He.ga K "steps_of") m.d_steps_of ["rule", "row", "word"] spSteps := by
  obtain ⟨ta, hA⟩ := m.arrival
  refine m.F_steps_of.ok sc_steps_of (fun vs H Q E h => ?_) (fun cdv A outer s H vs Q E hr h => ⟨_, PSs.nox (pss_cons (ps_asg (pe_tup (pa_cons (pe_lst pa_nil) (pa_cons (pe_tup pa_nil) (pa_cons pe_int (pa_cons pe_non pa_nil))))) (pg_tup rfl (pgs_cons (pg_name (i := 3) sc_steps_of.nd rfl (Or.inl rfl)) (pgs_cons (pg_name (i := 4) sc_steps_of.nd rfl (Or.inl rfl)) (pgs_cons (pg_name (i := 5) sc_steps_of.nd rfl (Or.inl rfl)) (pgs_cons (pg_name (i := 6) sc_steps_of.nd rfl (Or.inl rfl)) pgs_nil))))))
    (pss_cons (ps_for PassesOwn.never rfl (pi_str (pv 2)) (pg_name (i := 7) sc_steps_of.nd rfl (Or.inl rfl))
      (pss_cons (ps_if (pt_cmpR op_eq (pv 7) (pe_glob (v := .str "a") (by rfl) hA ⟨_, rfl⟩) (nomark _))
        (pss_cons (ps_par (i := 8) (j := 5) rfl sc_steps_of.nd rfl rfl (by decide) rfl rfl (pa_cons (pv 5) (pa_cons (pe_op op_add (pv 5) pe_int) pa_nil)) (by rfl)) (pss_one (ps_set (i := 4) sc_steps_of.nd rfl (Or.inl rfl) (pe_tup (pa_star (pv 4) (pa_cons (pv 8) pa_nil))))))
        (pss_cons (ps_set (i := 9) sc_steps_of.nd rfl (Or.inr rfl) (pe_call (ok_first_car m) hr rfl m.g_first_car m.F_first_car.kp m.b_first_car .nil pass0 (pa_cons (pv 0) (pa_cons (pv 1) (pa_cons (pv 6) (pa_cons (pv 4) pa_nil))))))
          (pss_cons (ps_par (i := 8) (j := 6) rfl sc_steps_of.nd rfl rfl (by decide) rfl rfl (pa_cons (pv 9) (pa_cons (pe_ix ix_tup (pv 1) (pv 9) (fun _ _ => rfl)) pa_nil)) (by rfl))
            (pss_one (ps_set (i := 4) sc_steps_of.nd rfl (Or.inl rfl) (pe_tupleOf (by rfl) m.n_tuple (pe_lc (own := [("other", 10)]) (g := gName 10) rfl sc_steps_of.nd (pi_tup (pv 4)) (blkOk_by (own := [("other", 10)]) (N := ["rule", "row", "word", "found", "waiting", "come", "last", "letter", "car", "passing", "other"]) (sc := defScope (topSt 23)) (by decide +kernel))
              (fun _ _ _ _ _ => pg_name (i := 10) sc_steps_of.nd rfl (Or.inl rfl)) (fun _ _ _ _ _ => pts_one (pt_cmpR op_ne (pv 10) (pv 9) (nomark _))) (fun _ _ _ _ _ => pv 10))))))))
        (pss_one (ps_expr (pe_bm PySem.F.plainAttrs_list PySem.F.slot_list_append PySem.F.type_list_append mt_append (pv 3) (pa_cons (pe_tup (pa_cons (pv 7) (pa_cons (pv 8) (pa_cons (pv 4) pa_nil)))) pa_nil))))))
    (pss_one (ps_ret (pv 3))))), ?_⟩)
  · obtain ⟨r, R, n, rv, row, bs, rfl, _⟩ := h; rfl
  · obtain ⟨r, R, n, rv, row, bs, rfl, tt, g, ⟨b, rfl, hb⟩, hrow, lrow, val, len, q⟩ := h
    refine ⟨by show 0 ≤ sizeLine; decide, fun L hL => ⟨by show 0 ≤ sizeLine; decide, fun t0 ht0 => ⟨by show 4 ≤ sizeLine; decide, fun t1 ht1 => ⟨t1, _, rfl, SqT.of upd_same, rfl, _, _, rfl, _, _, rfl, _, _, rfl, _, _, rfl, rfl, ?_⟩⟩⟩⟩
    have e0 : Ext H (L2.upd (L2.upd (L2.upd H L (.lst [])) t0 (.tup [])) t1 (.tup [V.ref L, V.ref t0, V.int 0, V.non])) := ((Ext.upd hL).put ht0).put ht1
    have l0 : L2.upd (L2.upd (L2.upd H L (.lst [])) t0 (.tup [])) t1 (.tup [V.ref L, V.ref t0, V.int 0, V.non]) L = some (.lst []) := Ext.upd ht1 _ _ (Ext.upd ht0 _ _ upd_same)
    have w0 : Tn (L2.upd (L2.upd (L2.upd H L (.lst [])) t0 (.tup [])) t1 (.tup [V.ref L, V.ref t0, V.int 0, V.non])) (V.ref t0) [] := ⟨t0, rfl, .inl (Ext.upd ht1 _ _ upd_same)⟩
    generalize L2.upd (L2.upd (L2.upd H L (.lst [])) t0 (.tup [])) t1 (.tup [V.ref L, V.ref t0, V.int 0, V.non]) = H0 at e0 l0 w0
    refine ⟨_, rfl, wordS bs, rfl, for_its (fun i σ' H' => Ext H H' ∧ ∃ acc wv x7 x8 x9 x10 d a p don, H' L = some (.lst acc) ∧ acc.length ≤ i ∧ Its3 H' acc don ∧ dayRun R row day0 bs = don ++ dayRun R row d (bs.drop i) ∧ Tn H' wv d.waiting ∧ DayOk n row d a p ∧ a ≤ row.length ∧ Valid row.length a p (bs.drop i) ∧
      σ' = [some r, some (V.ref b), some (V.str (wordS bs)), some (V.ref L), some wv, some (nV d.come), some (lastV d.last), x7, x8, x9, x10])
      ⟨e0, [], _, _, _, _, _, day0, 0, 0, [], l0, Nat.le_refl _, .nil, rfl, w0, ⟨rfl, rfl, List.nodup_nil, (fun c hc => by cases hc), (fun l hl => by cases hl)⟩, Nat.zero_le _, val, rfl⟩ (fun i σ' H' c hc p => ?_) fun σ' H' p => ?_⟩
    · obtain ⟨e1, acc, wv, x7, x8, x9, x10, d, a, pp, don, hacc, lacc, its, run, wt, ok, le, vl, rfl⟩ := p
      obtain ⟨bb, hb2, rfl⟩ : ∃ bb, bs[i]? = some bb ∧ sgn bb = c := by
        rw [word_at] at hc
        cases hb : bs[i]? with
        | none => rw [hb] at hc; cases hc
        | some b => rw [hb] at hc; exact ⟨b, rfl, Option.some.inj hc⟩
      have hi : i < bs.length := (List.getElem?_eq_some_iff.mp hb2).1
      have dr : bs.drop i = bb :: bs.drop (i + 1) := by
        rw [List.drop_eq_getElem_cons hi]
        congr 1
        rw [List.getElem?_eq_getElem hi] at hb2
        exact Option.some.inj hb2
      rw [dr] at vl run
      obtain ⟨a', p', ok', le', vl', ne⟩ := day_ok g rfl hrow ok le vl
      obtain ⟨aw, rfl, haw⟩ := wt
      have run' : dayRun R row day0 bs = (don ++ [(dayStep R row d bb).1]) ++ dayRun R row (dayStep R row d bb).2 (bs.drop (i + 1)) := by
        rw [run, List.append_assoc]; rfl
      -- what is put behind the list
      have put : ∀ (H5 : Hp) (t2 : Addr) (wv' : V), Ext H' H5 → H5 t2 = none → Tn H5 wv' (dayStep R row d bb).1.2.2 → Its3 (L2.upd (L2.upd H5 t2 (.tup [V.str (sgS (dayStep R row d bb).1.1), nV (dayStep R row d bb).1.2.1, wv'])) L (.lst (acc ++ [V.ref t2]))) (acc ++ [V.ref t2]) (don ++ [(dayStep R row d bb).1]) := fun H5 t2 wv' e5 ht2 tw => by
        have l5 := Ext.upd (o := .tup [V.str (sgS (dayStep R row d bb).1.1), nV (dayStep R row d bb).1.2.1, wv']) ht2 _ _ (e5 _ _ hacc)
        have e6 : ExtT H' (L2.upd (L2.upd H5 t2 (.tup [V.str (sgS (dayStep R row d bb).1.1), nV (dayStep R row d bb).1.2.1, wv'])) L (.lst (acc ++ [V.ref t2]))) := (e5.put ht2).tup.put l5
        have e7 : ExtT H5 (L2.upd (L2.upd H5 t2 (.tup [V.str (sgS (dayStep R row d bb).1.1), nV (dayStep R row d bb).1.2.1, wv'])) L (.lst (acc ++ [V.ref t2]))) := (Ext.upd ht2).tup.put l5
        refine paired_app (its3_extT its e6) (.cons ⟨t2, wv', rfl, ?_, tw.extT e7⟩ .nil)
        have n1 : t2 ≠ L := fun z => by
          have k := e5 _ _ hacc
          rw [← z, ht2] at k; cases k
        rw [upd_ne n1, upd_same]
      refine ⟨_, rfl, rfl, _, rfl, ?_⟩
      show if decide (V.str (sgS bb) = V.str "a") = true then _ else _
      rw [sgS_ne]
      cases bb with
      | true =>
        refine iteT ⟨_, rfl, _, rfl, _, _, rfl, rfl, _, _, rfl, _, rfl, aw, _, rfl, .inl (.inl haw), _, rfl, ?_, fun t ht => ?_⟩
        · rw [List.length_append, List.length_map, sizeLine_eq]
          have := nodup_le ok.nd (m := List.range a) fun x hx => List.mem_range.mpr (by have := ok.lt x hx; have := ok.come; omega)
          rw [List.length_range] at this
          simp only [List.length_cons, List.length_nil]
          omega
        · have ew : nVs d.waiting ++ [nV d.come] = nVs (d.waiting ++ [d.come]) := by rw [nVs_app] <;> rfl
          have tw : Tn (L2.upd H' t (.tup (nVs d.waiting ++ [nV d.come]))) (V.ref t) (d.waiting ++ [d.come]) := ⟨t, rfl, .inl (by rw [upd_same, ew])⟩
          have e5 : Ext H' (L2.upd H' t (.tup (nVs d.waiting ++ [nV d.come]))) := Ext.upd ht
          refine ⟨_, rfl, .inl ⟨rfl, _, SqL.of (e5 _ _ hacc)⟩, _, rfl, _, rfl, _, rfl, by show 3 ≤ sizeLine; decide, fun t2 ht2 => ⟨L, _, _, rfl, rfl, (e5.put ht2) _ _ hacc, by rw [sizeLine_eq]; omega, ?_⟩⟩
          exact ⟨((e1.trans e5).put ht2).set hL, acc ++ [V.ref t2], V.ref t, _, _, _, _, _, a', p', _, upd_same, by simp; omega, put _ t2 _ e5 ht2 tw, run', (tw.ext (Ext.upd ht2)).extT (Ext.rfl.tup.put ((e5.put ht2) _ _ hacc)), ok', le', vl', rfl⟩
      | false =>
        obtain ⟨pf, h1, h2⟩ := good_at (R := R) g ok.last
        have rows : ∀ c ∈ d.waiting, c < row.length := fun c hc => by have := ok.lt c hc; have := ok.come; omega
        have lanes : ∀ c ∈ d.waiting, laneOf row c < n := fun c hc => hrow _ (laneOf_mem (rows c hc))
        have ep : (R[spot d.last]?).getD [] = pf := by rw [h1]; rfl
        have lw : d.waiting.length ≤ 900 := by have := ok.count; omega
        refine iteF ⟨_, rfl, _, rfl, _, rfl, _, rfl, r, R, d.last, pf, .ref b, row, .ref aw, d.waiting, rfl, tt.ext e1, h1, by rw [h2.1]; have := g.2.1; omega, ⟨b, rfl, ta_ext hb e1⟩, ⟨aw, rfl, haw⟩, lw, ne rfl, rows, fun c hc => ?_, fun c hc => prm_mem h2 (lanes c hc), fun H2 e2 => ?_⟩
        · rw [g.2.2.1]; have := lanes c hc; omega
        obtain ⟨q1, q2⟩ := fstCar_mem (row := row) (ne rfl) fun c hc => prm_mem h2 (lanes c hc)
        have hcr := rows _ q1
        refine ⟨_, rfl, _, rfl, _, rfl, b, _, ((fstCar pf row d.waiting : Nat) : Int), nV (laneOf row (fstCar pf row d.waiting)), rfl, rfl, .inl (ta_ext hb (e1.trans e2)), atI_nat ?_, _, _, rfl, ?_⟩
        · rw [List.getElem?_map, List.getElem?_eq_getElem hcr]
          show some (nV row[_]) = some (nV (row.getD _ 0))
          rw [List.getD_eq_getElem?_getD, List.getElem?_eq_getElem hcr]; rfl
        have e12 := e1.trans e2
        have aw2 := ta_ext haw e2
        dsimp only [tSeq, tAsg, tThen]
        refine lc_filter (fun x => x != fstCar pf row d.waiting) (by show 10 < 11; decide) lw aw2 (fun R r => ⟨_, rfl, r⟩) (fun x _ H' Q' e q' => ⟨_, rfl, _, rfl, rfl, _, rfl, ?_⟩) fun D2 H3 new2 e3 hD2 => ?_
        · have ee : (!decide (nV x = nV (fstCar pf row d.waiting))) = (x != fstCar pf row d.waiting) := by
            by_cases hx : x = fstCar pf row d.waiting
            · rw [hx]; simp
            · rw [decide_eq_false (fun z => hx (by injection z with z; omega))]; simp [hx]
          show Q' (!decide (nV x = nV (fstCar pf row d.waiting))) H'
          rw [ee]; exact q'
        refine .inl ⟨D2, _, rfl, SqL.of hD2, fun t ht => ?_⟩
        have tw : Tn (L2.upd H3 t (.tup (nVs (d.waiting.filter fun x => x != fstCar pf row d.waiting)))) (V.ref t) (dayStep R row d false).1.2.2 := ⟨t, rfl, .inl (by
          show L2.upd H3 t _ t = some (.tup (nVs (d.waiting.filter fun x => x != fstCar ((R[spot d.last]?).getD []) row d.waiting)))
          rw [upd_same, ep])⟩
        have e5 : Ext H' (L2.upd H3 t (.tup (nVs (d.waiting.filter fun x => x != fstCar pf row d.waiting)))) := (e2.trans e3).put ht
        generalize L2.upd H3 t (.tup (nVs (d.waiting.filter fun x => x != fstCar pf row d.waiting))) = H5 at tw e5
        have ecar : (dayStep R row d false).1.2.1 = fstCar pf row d.waiting := by show fstCar ((R[spot d.last]?).getD []) row d.waiting = _; rw [ep]
        have elast : lastV (dayStep R row d false).2.last = nV (laneOf row (fstCar pf row d.waiting)) := by show nV (laneOf row (fstCar ((R[spot d.last]?).getD []) row d.waiting)) = _; rw [ep]
        refine ⟨_, rfl, .inl ⟨rfl, _, SqL.of (e5 _ _ hacc)⟩, _, rfl, _, rfl, _, rfl, by show 3 ≤ sizeLine; decide, fun t2 ht2 => ⟨L, _, _, rfl, rfl, (e5.put ht2) _ _ hacc, by rw [sizeLine_eq]; omega, ?_⟩⟩
        have pt := put _ t2 _ e5 ht2 tw
        rw [ecar] at pt
        refine ⟨((e1.trans e5).put ht2).set hL, acc ++ [V.ref t2], V.ref t, some (V.str (sgS false)), some (nV (fstCar pf row d.waiting)), some (nV (fstCar pf row d.waiting)), x10, (dayStep R row d false).2, a', p', don ++ [(dayStep R row d false).1], upd_same, by simp; omega, pt, run', (tw.ext (Ext.upd ht2)).extT (Ext.rfl.tup.put ((e5.put ht2) _ _ hacc)), ok', le', vl', ?_⟩
        rw [elast]
        rfl
    · obtain ⟨e1, acc, wv, x7, x8, x9, x10, d, a, pp, don, hacc, lacc, its, run, wt, ok, le, vl, rfl⟩ := p
      refine ⟨_, rfl, q L acc H' hL e1 hacc ?_⟩
      rw [word_size, List.drop_length] at run
      have run2 : dayRun R row day0 bs = don ++ [] := run
      rw [run2, List.append_nil]
      exact its
end
end GG
/-! D6: waits, passed_over. -/
namespace GG
open PySem
open PySem.Spec
open PyProof.Rows
open L2
open RR
open StX

def inc (l : List Nat) (k : Nat) : List Nat := l.set k (l.getD k 0 + 1)
theorem inc_len (l : List Nat) (k : Nat) : (inc l k).length = l.length := by unfold inc; rw [List.length_set]
def waitItem (l : List Nat) (i : Item) : List Nat := if i.1 then l else i.2.2.foldl inc l
def waitsM : List Nat → List Item → List Nat
  | l, [] => l
  | l, i :: r => waitsM (waitItem l i) r
def overOne (row : List Nat) (st : List Nat × List Nat) (k : Nat) : List Nat × List Nat := if st.1.contains (laneOf row k) then st else (st.1 ++ [laneOf row k], inc st.2 k)
def overItem (row l : List Nat) (i : Item) : List Nat := if i.1 then l else (i.2.2.foldl (overOne row) ([laneOf row i.2.1], l)).2
def overM (row : List Nat) : List Nat → List Item → List Nat
  | l, [] => l
  | l, i :: r => overM row (overItem row l i) r
theorem valid_count {m : Nat} : ∀ {bs : List Bool} {a p : Nat}, Valid m a p bs → a ≤ m → a + bs.count true ≤ m
  | [], _, _, _, h => by simpa using h
  | true :: r, a, p, v, h => by
    have := valid_count v.2 v.1
    rw [List.count_cons]; simp; omega
  | false :: r, a, p, v, h => by
    have := valid_count v.2 h
    rw [List.count_cons]; simp; omega
/-- a step's cars have come -/
def ItemOk (t : Nat) (i : Item) : Prop := (∀ c ∈ i.2.2, c < t) ∧ i.2.1 < t ∧ i.2.2.length ≤ t
theorem items_ok {n m : Nat} {R : List (List Nat)} {row : List Nat} (g : Good n R) (hm : row.length = m) (hrow : ∀ x ∈ row, x < n) : ∀ {bs : List Bool} {d : Day} {a p : Nat}, DayOk n row d a p → a ≤ m → Valid m a p bs → ∀ i ∈ dayRun R row d bs, ItemOk (a + bs.count true) i
  | [], _, _, _, _, _, _, _, h => by cases h
  | b :: r, d, a, p, ok, le, v, i, h => by
    obtain ⟨a', p', ok', le', v', ne⟩ := day_ok g hm hrow ok le v
    have cnt : a' + r.count true = a + (b :: r).count true := by
      have h1 := ok'.come
      cases b with
      | true =>
        have h2 : d.come + 1 = a' := h1
        rw [List.count_cons]; simp
        have := ok.come; omega
      | false =>
        have h2 : d.come = a' := h1
        rw [List.count_cons]; simp
        have := ok.come; omega
    rcases List.mem_cons.mp h with rfl | h
    · have lw : (dayStep R row d b).2.waiting = (dayStep R row d b).1.2.2 := by cases b <;> rfl
      have hc := ok'.count
      refine ⟨fun c hc => ?_, ?_, by rw [← lw]; omega⟩
      · have := ok'.lt c (by rw [lw]; exact hc)
        have := ok'.come
        omega
      · cases b with
        | true =>
          show d.come < _
          have h2 : d.come + 1 = a' := ok'.come
          omega
        | false =>
          obtain ⟨pf, h1, h2⟩ := good_at (R := R) g ok.last
          have q := (fstCar_mem (row := row) (p := pf) (ne rfl) fun c hc => prm_mem h2 (hrow _ (laneOf_mem (by have := ok.lt c hc; have := ok.come; omega)))).1
          have ep : (R[spot d.last]?).getD [] = pf := by rw [h1]; rfl
          show fstCar ((R[spot d.last]?).getD []) row d.waiting < _
          rw [ep]
          have := ok.lt _ q
          have := ok.come
          rw [List.count_cons]; simp; omega
    · rw [← cnt]
      exact items_ok g hm hrow ok' le' v' i h
theorem day0_ok (n : Nat) (row : List Nat) : DayOk n row day0 0 0 := ⟨rfl, rfl, List.nodup_nil, (fun c hc => by cases hc), (fun l hl => by cases hl)⟩
theorem paired_getL {α β : Type} {F : α → β → Prop} : ∀ {l : List α} {m : List β} (i : Nat) (x : α), Paired F l m → l[i]? = some x → ∃ y, m[i]? = some y ∧ F x y
  | _, _, _, _, .nil, h => by simp at h
  | _, _, 0, _, .cons a b, h => by
    have e := Option.some.inj (show some _ = some _ from h)
    exact ⟨_, rfl, e ▸ a⟩
  | _, _, i + 1, y, .cons a b, h => paired_getL i y b h
theorem drop_at {α : Type} {l : List α} {i : Nat} {x : α} (h : l[i]? = some x) : l.drop i = x :: l.drop (i + 1) := by
  obtain ⟨hi, e⟩ := List.getElem?_eq_some_iff.mp h
  rw [List.drop_eq_getElem_cons hi, e]
theorem ixN_nat {n k : Nat} (h : k < n) : ixN n (k : Int) = some k := by
  unfold ixN
  rw [if_pos (by omega), if_pos (by omega)]; simp
theorem nVs_set (l : List Nat) (k x : Nat) : (nVs l).set k (nV x) = nVs (l.set k x) := (List.map_set).symm
theorem set_inc {l : List Nat} {k : Nat} : (nVs l).set k (.int ((l.getD k 0 : Nat) + 1)) = nVs (inc l k) := nVs_set l k (l.getD k 0 + 1)
theorem getD_at {l : List Nat} {k : Nat} (h : k < l.length) : (nVs l)[k]? = some (nV (l.getD k 0)) := by
  rw [List.getElem?_map, List.getD_eq_getElem?_getD, List.getElem?_eq_getElem h]; rfl
theorem nVs_len (l : List Nat) : (nVs l).length = l.length := List.length_map ..

section
variable {w : World} {K : PySem.W.Frag} {mg : Str → Option Value} {base : Heap}
def spWaits : Sp := fun vs H Q _ => ∃ r R n rv row bs, vs = [r, rv, .str (wordS bs)] ∧ Tt H r R ∧ Good n R ∧ Tn H rv row ∧ (∀ x ∈ row, x < n) ∧ row.length ≤ 300 ∧ Valid row.length 0 0 bs ∧ bs.length ≤ 900 ∧
  ∀ v H', Ext H H' → Tn H' v (waitsM (List.replicate (bs.count true) 0) (dayRun R row day0 bs)) → Q v H'
theorem sc_waits : FnScope ["rule", "row", "word", "found", "letter", "car", "waiting", "other"] ["rule", "row", "word"] (defScope (topSt 35)) := ⟨rfl, rfl, rfl, by decide +kernel, rfl, by decide +kernel, by decide +kernel⟩
theorem ok_waits (m : Md K mg) : OkD w K mg base 7 (He.ga K "waits") m.d_waits ["rule", "row", "word"] spWaits := by
  obtain ⟨ta, hA⟩ := m.arrival
  obtain ⟨tp, hP⟩ := m.passing
  refine m.F_waits.ok sc_waits (fun vs H Q E h => ?_) (fun cdv A outer s H vs Q E hr h => ⟨_, PSs.nox (pss_cons (ps_expr (pe_call (ok_check_word m) (hr.mono (by decide)) rfl m.g_check_word m.F_check_word.kp m.b_check_word .nil pass0 (pa_cons (pv 1) (pa_cons (pv 2) pa_nil))))
    (pss_cons (ps_set (i := 3) sc_waits.nd rfl (Or.inl rfl) (pe_op op_rep (pe_lst (pa_cons pe_int pa_nil)) (pe_m1 PySem.F.slot_str_count PySem.F.type_str_count mt_count (pv 2) (pe_glob (v := .str "a") (by rfl) hA ⟨_, rfl⟩))))
    (pss_cons (ps_for PassesOwn.never rfl (pi_list (pe_call (ok_steps_of m) hr rfl m.g_steps_of m.F_steps_of.kp m.b_steps_of .nil pass0 (pa_cons (pv 0) (pa_cons (pv 1) (pa_cons (pv 2) pa_nil))))) (pg_tup rfl (pgs_cons (pg_name (i := 4) sc_waits.nd rfl (Or.inl rfl)) (pgs_cons (pg_name (i := 5) sc_waits.nd rfl (Or.inl rfl)) (pgs_cons (pg_name (i := 6) sc_waits.nd rfl (Or.inl rfl)) pgs_nil))))
      (pss_one (ps_if (pt_cmpR op_eq (pv 4) (pe_glob (v := .str "p") (by rfl) hP ⟨_, rfl⟩) (nomark _)) (pss_one (ps_for PassesOwn.never rfl (pi_tup (pv 6)) (pg_name (i := 7) sc_waits.nd rfl (Or.inl rfl)) (pss_one (ps_augS (pv 3) (pv 7) pget_list pe_int ip_add set_list)))) pss_nil)))
    (pss_one (ps_ret (pe_tupleOf (by rfl) m.n_tuple (pv 3))))))), ?_⟩)
  · obtain ⟨r, R, n, rv, row, bs, rfl, _⟩ := h; rfl
  · obtain ⟨r, R, n, rv, row, bs, rfl, tt, g, ⟨b, rfl, hb⟩, hrow, lrow, val, len, q⟩ := h
    have cnt := valid_count val (Nat.zero_le _)
    have iok := items_ok g rfl hrow (day0_ok n row) (Nat.zero_le _) val
    rw [Nat.zero_add] at cnt iok
    refine ⟨_, rfl, _, rfl, b, nVs row, bs, rfl, hb, by rw [nVs_len]; exact val, len, fun H1 e1 => ?_⟩
    refine ⟨by show 1 ≤ sizeLine; decide, fun l hl => ⟨_, rfl, ⟨_, rfl⟩, _, _, rfl, rfl, ?_⟩⟩
    rw [word_count]
    refine ⟨l, _, _, rfl, rfl, upd_same, by omega, by omega, by rw [sizeLine_eq]; show 1 * (bs.count true) ≤ _; omega, fun D hD => ?_⟩
    have z0 : (List.replicate ((bs.count true : Nat) : Int).toNat [V.int 0]).flatten = nVs (List.replicate (bs.count true) 0) := by
      rw [flat_one, Int.toNat_natCast]
      exact (List.map_replicate (f := nV) (a := 0) (n := bs.count true)).symm
    rw [z0]
    have e2 : Ext H (L2.upd (L2.upd H1 l (.lst [V.int 0])) D (.lst (nVs (List.replicate (bs.count true) 0)))) := (e1.put hl).put hD
    have nD : H D = Option.none := (e1.put hl).none hD
    have aD : L2.upd (L2.upd H1 l (.lst [V.int 0])) D (.lst (nVs (List.replicate (bs.count true) 0))) D = some (.lst (nVs (List.replicate (bs.count true) 0))) := upd_same
    generalize L2.upd (L2.upd H1 l (.lst [V.int 0])) D (.lst (nVs (List.replicate (bs.count true) 0))) = H2 at e2 aD
    refine ⟨_, rfl, _, rfl, _, rfl, r, R, n, .ref b, row, bs, rfl, tt.ext e2, g, ⟨b, rfl, ta_ext hb e2⟩, hrow, lrow, val, len, fun L vs' H3 hL e3 aL its => ?_⟩
    have nDL : D ≠ L := fun z => by rw [z, hL] at aD; cases aD
    refine ⟨L, rfl, ⟨_, SqL.of aL⟩, for_list (xs := vs') (fun i σ' H' => Ext H H' ∧ ExtT H3 H' ∧ H' L = some (.lst vs') ∧ ∃ l x4 x5 x6 x7, H' D = some (.lst (nVs l)) ∧ l.length = bs.count true ∧ waitsM (List.replicate (bs.count true) 0) (dayRun R row day0 bs) = waitsM l ((dayRun R row day0 bs).drop i) ∧
      σ' = [some r, some (V.ref b), some (V.str (wordS bs)), some (V.ref D), x4, x5, x6, x7]) ⟨e2.trans e3, Ext.rfl.tup, aL, _, _, _, _, _, e3 _ _ aD, by simp, rfl, rfl⟩ (fun i σ' H' _ p => SqL.of p.2.2.1) (fun i x σ' H' hx p => ?_) fun σ' H' p => ?_⟩
    · obtain ⟨e4, e5, aL', l1, x4, x5, x6, x7, aD', ll, wm, rfl⟩ := p
      obtain ⟨it, hit, t, wv, rfl, ht, tw⟩ := paired_getL i x its hx
      have ok := iok it (List.mem_of_getElem? hit)
      rw [drop_at hit] at wm
      refine ⟨t, _, rfl, SqT.of (e5 _ _ (fun _ z => by cases z) ht), rfl, _, _, rfl, _, _, rfl, _, _, rfl, rfl, ?_⟩
      refine ⟨_, rfl, rfl, _, rfl, ?_⟩
      show if decide (V.str (sgS it.1) = V.str "p") = true then _ else _
      rw [sgP_ne]
      have wm1 : waitsM (List.replicate (bs.count true) 0) (dayRun R row day0 bs) = waitsM (waitItem l1 it) ((dayRun R row day0 bs).drop (i + 1)) := wm
      cases hb1 : it.1 with
      | true =>
        have w1 : waitItem l1 it = l1 := by unfold waitItem; rw [hb1]; rfl
        rw [w1] at wm1
        exact iteF ⟨e4, e5, aL', l1, _, _, _, _, aD', ll, wm1, rfl⟩
      | false =>
        have w1 : waitItem l1 it = it.2.2.foldl inc l1 := by unfold waitItem; rw [hb1]; rfl
        rw [w1] at wm1
        obtain ⟨aw, rfl, haw⟩ := tw
        have haw' := ta_extT haw e5
        refine iteT ⟨_, rfl, aw, rfl, ⟨_, .inl haw'⟩, for_tup (xs := nVs it.2.2) (fun j σ2 H2 => Ext H H2 ∧ ExtT H3 H2 ∧ H2 L = some (.lst vs') ∧ ∃ l2 x7, H2 D = some (.lst (nVs l2)) ∧ l2.length = bs.count true ∧ it.2.2.foldl inc l1 = (it.2.2.drop j).foldl inc l2 ∧
          σ2 = [some r, some (V.ref b), some (V.str (wordS bs)), some (V.ref D), some (V.str (sgS it.1)), some (nV it.2.1), some (V.ref aw), x7]) ⟨e4, e5, aL', l1, _, aD', ll, rfl, by rw [hb1]; rfl⟩ (fun j σ2 H2 _ p => .inl (ta_extT haw p.2.1)) (fun j y σ2 H2 hy p => ?_) fun σ2 H2 p => ?_⟩
        · obtain ⟨f4, f5, fL, l2, x7, fD, fl, fm, rfl⟩ := p
          obtain ⟨k, hk, rfl⟩ := nVs_get hy
          have kl : k < l2.length := by rw [fl]; exact ok.1 k (List.mem_of_getElem? hk)
          rw [drop_at hk] at fm
          refine ⟨_, rfl, _, rfl, D, _, k, _, rfl, rfl, fD, getD_at kl, _, 1, rfl, rfl, D, _, (k : Int), k, rfl, rfl, fD, by rw [nVs_len]; exact ixN_nat kl, ?_⟩
          rw [set_inc]
          exact ⟨f4.set nD, f5.put fD, by rw [upd_ne (Ne.symm nDL)]; exact fL, inc l2 k, _, upd_same, by rw [inc_len, fl], fm, rfl⟩
        · obtain ⟨f4, f5, fL, l2, x7, fD, fl, fm, rfl⟩ := p
          rw [nVs_len, List.drop_length] at fm
          have fm2 : it.2.2.foldl inc l1 = l2 := fm
          rw [fm2] at wm1
          exact ⟨f4, f5, fL, l2, _, _, _, _, fD, fl, wm1, rfl⟩
    · obtain ⟨e4, e5, aL', l1, x4, x5, x6, x7, aD', ll, wm, rfl⟩ := p
      have hl2 := paired_len its
      rw [hl2, List.drop_length] at wm
      have wm2 : waitsM (List.replicate (bs.count true) 0) (dayRun R row day0 bs) = l1 := wm
      refine ⟨_, rfl, .inl ⟨D, _, rfl, SqL.of aD', fun t ht => q _ _ (e4.put ht) ⟨t, rfl, .inl ?_⟩⟩⟩
      rw [upd_same, wm2]
theorem row_at {row : List Nat} {c : Nat} (h : c < row.length) : (nVs row)[c]? = some (nV (laneOf row c)) := by
  rw [List.getElem?_map, List.getElem?_eq_getElem h]
  show some (nV row[c]) = some (nV (row.getD c 0))
  rw [List.getD_eq_getElem?_getD, List.getElem?_eq_getElem h]; rfl
def spOver : Sp := fun vs H Q _ => ∃ r R n rv row bs, vs = [r, rv, .str (wordS bs)] ∧ Tt H r R ∧ Good n R ∧ Tn H rv row ∧ (∀ x ∈ row, x < n) ∧ row.length ≤ 300 ∧ Valid row.length 0 0 bs ∧ bs.length ≤ 900 ∧
  ∀ v H', Ext H H' → Tn H' v (overM row (List.replicate (bs.count true) 0) (dayRun R row day0 bs)) → Q v H'
theorem sc_over : FnScope ["rule", "row", "word", "found", "letter", "car", "waiting", "lanes", "other"] ["rule", "row", "word"] (defScope (topSt 36)) := ⟨rfl, rfl, rfl, by decide +kernel, rfl, by decide +kernel, by decide +kernel⟩
theorem ok_passed_over (m : Md K mg) : OkD w K mg base 7 (He.ga K "passed_over") m.d_passed_over ["rule", "row", "word"] spOver := by
  obtain ⟨ta, hA⟩ := m.arrival
  obtain ⟨tp, hP⟩ := m.passing
  refine m.F_passed_over.ok sc_over (fun vs H Q E h => ?_) (fun cdv A outer s H vs Q E hr h => ⟨_, PSs.nox (pss_cons (ps_expr (pe_call (ok_check_word m) (hr.mono (by decide)) rfl m.g_check_word m.F_check_word.kp m.b_check_word .nil pass0 (pa_cons (pv 1) (pa_cons (pv 2) pa_nil))))
    (pss_cons (ps_set (i := 3) sc_over.nd rfl (Or.inl rfl) (pe_op op_rep (pe_lst (pa_cons pe_int pa_nil)) (pe_m1 PySem.F.slot_str_count PySem.F.type_str_count mt_count (pv 2) (pe_glob (v := .str "a") (by rfl) hA ⟨_, rfl⟩))))
    (pss_cons (ps_for PassesOwn.never rfl (pi_list (pe_call (ok_steps_of m) hr rfl m.g_steps_of m.F_steps_of.kp m.b_steps_of .nil pass0 (pa_cons (pv 0) (pa_cons (pv 1) (pa_cons (pv 2) pa_nil))))) (pg_tup rfl (pgs_cons (pg_name (i := 4) sc_over.nd rfl (Or.inl rfl)) (pgs_cons (pg_name (i := 5) sc_over.nd rfl (Or.inl rfl)) (pgs_cons (pg_name (i := 6) sc_over.nd rfl (Or.inl rfl)) pgs_nil))))
      (pss_one (ps_if (pt_cmpR op_eq (pv 4) (pe_glob (v := .str "p") (by rfl) hP ⟨_, rfl⟩) (nomark _)) (pss_cons (ps_set (i := 7) sc_over.nd rfl (Or.inl rfl) (pe_lst (pa_cons (pe_ix ix_tup (pv 1) (pv 5) (fun _ _ => rfl)) pa_nil)))
        (pss_one (ps_for PassesOwn.never rfl (pi_tup (pv 6)) (pg_name (i := 8) sc_over.nd rfl (Or.inl rfl)) (pss_one (ps_if (pt_cmpR op_notIn_seq (pe_ix ix_tup (pv 1) (pv 8) (fun _ _ => rfl)) (pv 7) (by rfl))
          (pss_cons (ps_expr (pe_bm PySem.F.plainAttrs_list PySem.F.slot_list_append PySem.F.type_list_append mt_append (pv 7) (pa_cons (pe_ix ix_tup (pv 1) (pv 8) (fun _ _ => rfl)) pa_nil)))
            (pss_one (ps_augS (pv 3) (pv 8) pget_list pe_int ip_add set_list))) pss_nil))))) pss_nil)))
    (pss_one (ps_ret (pe_tupleOf (by rfl) m.n_tuple (pv 3))))))), ?_⟩)
  · obtain ⟨r, R, n, rv, row, bs, rfl, _⟩ := h; rfl
  · obtain ⟨r, R, n, rv, row, bs, rfl, tt, g, ⟨b, rfl, hb⟩, hrow, lrow, val, len, q⟩ := h
    have cnt := valid_count val (Nat.zero_le _)
    have iok := items_ok g rfl hrow (day0_ok n row) (Nat.zero_le _) val
    rw [Nat.zero_add] at cnt iok
    refine ⟨_, rfl, _, rfl, b, nVs row, bs, rfl, hb, by rw [nVs_len]; exact val, len, fun H1 e1 => ?_⟩
    refine ⟨by show 1 ≤ sizeLine; decide, fun l hl => ⟨_, rfl, ⟨_, rfl⟩, _, _, rfl, rfl, ?_⟩⟩
    rw [word_count]
    refine ⟨l, _, _, rfl, rfl, upd_same, by omega, by omega, by rw [sizeLine_eq]; show 1 * (bs.count true) ≤ _; omega, fun D hD => ?_⟩
    have z0 : (List.replicate ((bs.count true : Nat) : Int).toNat [V.int 0]).flatten = nVs (List.replicate (bs.count true) 0) := by
      rw [flat_one, Int.toNat_natCast]
      exact (List.map_replicate (f := nV) (a := 0) (n := bs.count true)).symm
    rw [z0]
    have e2 : Ext H (L2.upd (L2.upd H1 l (.lst [V.int 0])) D (.lst (nVs (List.replicate (bs.count true) 0)))) := (e1.put hl).put hD
    have nD : H D = Option.none := (e1.put hl).none hD
    have aD : L2.upd (L2.upd H1 l (.lst [V.int 0])) D (.lst (nVs (List.replicate (bs.count true) 0))) D = some (.lst (nVs (List.replicate (bs.count true) 0))) := upd_same
    generalize L2.upd (L2.upd H1 l (.lst [V.int 0])) D (.lst (nVs (List.replicate (bs.count true) 0))) = H2 at e2 aD
    refine ⟨_, rfl, _, rfl, _, rfl, r, R, n, .ref b, row, bs, rfl, tt.ext e2, g, ⟨b, rfl, ta_ext hb e2⟩, hrow, lrow, val, len, fun L vs' H3 hL e3 aL its => ?_⟩
    have nDL : D ≠ L := fun z => by rw [z, hL] at aD; cases aD
    refine ⟨L, rfl, ⟨_, SqL.of aL⟩, for_list (xs := vs') (fun i σ' H' => Ext H H' ∧ ExtT H3 H' ∧ H' L = some (.lst vs') ∧ ∃ l x4 x5 x6 x7 x8, H' D = some (.lst (nVs l)) ∧ l.length = bs.count true ∧ overM row (List.replicate (bs.count true) 0) (dayRun R row day0 bs) = overM row l ((dayRun R row day0 bs).drop i) ∧
      σ' = [some r, some (V.ref b), some (V.str (wordS bs)), some (V.ref D), x4, x5, x6, x7, x8]) ⟨e2.trans e3, Ext.rfl.tup, aL, _, _, _, _, _, _, e3 _ _ aD, by simp, rfl, rfl⟩ (fun i σ' H' _ p => SqL.of p.2.2.1) (fun i x σ' H' hx p => ?_) fun σ' H' p => ?_⟩
    · obtain ⟨e4, e5, aL', l1, x4, x5, x6, x7, x8, aD', ll, wm, rfl⟩ := p
      obtain ⟨it, hit, t, wv, rfl, ht, tw⟩ := paired_getL i x its hx
      have ok := iok it (List.mem_of_getElem? hit)
      rw [drop_at hit] at wm
      refine ⟨t, _, rfl, SqT.of (e5 _ _ (fun _ z => by cases z) ht), rfl, _, _, rfl, _, _, rfl, _, _, rfl, rfl, ?_⟩
      refine ⟨_, rfl, rfl, _, rfl, ?_⟩
      show if decide (V.str (sgS it.1) = V.str "p") = true then _ else _
      rw [sgP_ne]
      have wm1 : overM row (List.replicate (bs.count true) 0) (dayRun R row day0 bs) = overM row (overItem row l1 it) ((dayRun R row day0 bs).drop (i + 1)) := wm
      cases hb1 : it.1 with
      | true =>
        have w1 : overItem row l1 it = l1 := by unfold overItem; rw [hb1]; rfl
        rw [w1] at wm1
        exact iteF ⟨e4, e5, aL', l1, _, _, _, _, _, aD', ll, wm1, rfl⟩
      | false =>
        have w1 : overItem row l1 it = (it.2.2.foldl (overOne row) ([laneOf row it.2.1], l1)).2 := by unfold overItem; rw [hb1]; rfl
        rw [w1] at wm1
        obtain ⟨aw, rfl, haw⟩ := tw
        have haw' := ta_extT haw e5
        have hbH := ta_ext hb e4
        refine iteT ⟨_, rfl, _, rfl, b, _, _, _, rfl, rfl, .inl hbH, atI_nat (row_at (Nat.lt_of_lt_of_le ok.2.1 cnt)), by show 1 ≤ sizeLine; decide, fun F hF => ?_⟩
        have nFD : F ≠ D := fun z => by rw [z, aD'] at hF; cases hF
        have nFL : F ≠ L := fun z => by rw [z, aL'] at hF; cases hF
        have g4 : Ext H (L2.upd H' F (.lst [nV (laneOf row it.2.1)])) := e4.put hF
        have g5 : ExtT H3 (L2.upd H' F (.lst [nV (laneOf row it.2.1)])) := e5.trans (Ext.upd hF).tup
        have nF : H F = Option.none := e4.none hF
        refine ⟨_, rfl, aw, rfl, ⟨_, .inl (ta_extT haw g5)⟩, for_tup (xs := nVs it.2.2) (fun j σ2 H2 => Ext H H2 ∧ ExtT H3 H2 ∧ H2 L = some (.lst vs') ∧ ∃ ln l2 x8, H2 D = some (.lst (nVs l2)) ∧ H2 F = some (.lst (nVs ln)) ∧ ln.length ≤ 1 + j ∧ l2.length = bs.count true ∧ it.2.2.foldl (overOne row) ([laneOf row it.2.1], l1) = (it.2.2.drop j).foldl (overOne row) (ln, l2) ∧
          σ2 = [some r, some (V.ref b), some (V.str (wordS bs)), some (V.ref D), some (V.str (sgS it.1)), some (nV it.2.1), some (V.ref aw), some (V.ref F), x8]) ⟨g4, g5, by rw [upd_ne (Ne.symm nFL)]; exact aL', [laneOf row it.2.1], l1, _, by rw [upd_ne (Ne.symm nFD)]; exact aD', upd_same, Nat.le_refl _, ll, rfl, by rw [hb1]; rfl⟩ (fun j σ2 H2 _ p => .inl (ta_extT haw p.2.1)) (fun j y σ2 H2 hy p => ?_) fun σ2 H2 p => ?_⟩
        · obtain ⟨f4, f5, fL, ln, l2, x8, fD, fF, lln, fl, fm, rfl⟩ := p
          obtain ⟨k, hk, rfl⟩ := nVs_get hy
          have kt : k < bs.count true := ok.1 k (List.mem_of_getElem? hk)
          have kl : k < l2.length := by rw [fl]; exact kt
          have jl : j < it.2.2.length := (List.getElem?_eq_some_iff.mp hk).1
          have kr : k < row.length := Nat.lt_of_lt_of_le kt cnt
          rw [drop_at hk] at fm
          have hb2 := ta_ext hb f4
          refine ⟨_, rfl, _, rfl, b, _, _, _, rfl, rfl, .inl hb2, atI_nat (row_at kr), _, rfl, F, _, rfl, .inl (SqL.of fF), by rfl, flat_nVs _, _, rfl, ?_⟩
          show if (!_) = true then _ else _
          rw [in_nVs]
          have fm1 : it.2.2.foldl (overOne row) ([laneOf row it.2.1], l1) = (it.2.2.drop (j + 1)).foldl (overOne row) (overOne row (ln, l2) k) := fm
          cases hc : ln.contains (laneOf row k) with
          | true =>
            have eo : overOne row (ln, l2) k = (ln, l2) := by unfold overOne; rw [if_pos hc]
            rw [eo] at fm1
            exact iteF ⟨f4, f5, fL, ln, l2, _, fD, fF, by omega, fl, fm1, rfl⟩
          | false =>
            have eo : overOne row (ln, l2) k = (ln ++ [laneOf row k], inc l2 k) := by unfold overOne; rw [if_neg (by simp only [hc]; decide)]
            rw [eo] at fm1
            refine iteT ⟨_, rfl, .inl ⟨rfl, _, SqL.of fF⟩, _, rfl, _, rfl, b, _, _, _, rfl, rfl, .inl hb2, atI_nat (row_at kr), F, _, _, rfl, rfl, fF, by have := ok.2.2; rw [nVs_len, sizeLine_eq]; omega, ?_⟩
            have e7 : nVs ln ++ [nV (laneOf row k)] = nVs (ln ++ [laneOf row k]) := by rw [nVs_app] <;> rfl
            rw [e7]
            have fD2 : L2.upd H2 F (.lst (nVs (ln ++ [laneOf row k]))) D = some (.lst (nVs l2)) := by rw [upd_ne (Ne.symm nFD)]; exact fD
            refine ⟨_, rfl, _, rfl, D, _, k, _, rfl, rfl, fD2, getD_at kl, _, 1, rfl, rfl, D, _, (k : Int), k, rfl, rfl, fD2, by rw [nVs_len]; exact ixN_nat kl, ?_⟩
            rw [set_inc]
            refine ⟨(f4.set nF).set nD, (f5.put fF).put fD2, by rw [upd_ne (Ne.symm nDL), upd_ne (Ne.symm nFL)]; exact fL, ln ++ [laneOf row k], inc l2 k, _, upd_same, by rw [upd_ne nFD]; exact upd_same, by rw [List.length_append, List.length_singleton]; omega, by rw [inc_len, fl], fm1, rfl⟩
        · obtain ⟨f4, f5, fL, ln, l2, x8, fD, fF, lln, fl, fm, rfl⟩ := p
          rw [nVs_len, List.drop_length] at fm
          have fm2 : it.2.2.foldl (overOne row) ([laneOf row it.2.1], l1) = (ln, l2) := fm
          rw [fm2] at wm1
          exact ⟨f4, f5, fL, l2, _, _, _, _, _, fD, fl, wm1, rfl⟩
    · obtain ⟨e4, e5, aL', l1, x4, x5, x6, x7, x8, aD', ll, wm, rfl⟩ := p
      have hl2 := paired_len its
      rw [hl2, List.drop_length] at wm
      have wm2 : overM row (List.replicate (bs.count true) 0) (dayRun R row day0 bs) = l1 := wm
      refine ⟨_, rfl, .inl ⟨D, _, rfl, SqL.of aD', fun t ht => q _ _ (e4.put ht) ⟨t, rfl, .inl ?_⟩⟩⟩
      rw [upd_same, wm2]
end
end GG
/-! D7: Arrows: __init__, longest_from, all_longest; favoured. -/
namespace GG
open PySem
open PySem.Spec
open PyProof.Rows
open L2
open RR
open StX

/-- the lanes ahead of l in a preference -/
def ahead (l : Nat) (p : List Nat) : List Nat := p.takeWhile fun x => x != l
/-- the arrows' rows: as lists they are sorted, here only what is in them matters -/
def GOk (l : Nat) (R G : List (List Nat)) : Prop := Paired (fun (g p : List Nat) => g.Perm (ahead l p)) G R
def Lst (H : Hp) (v : V) (g : List Nat) : Prop := ∃ b, v = .ref b ∧ H b = some (.lst (nVs g))
theorem Lst.ext {H H' : Hp} {v : V} {g : List Nat} (t : Lst H v g) (e : Ext H H') : Lst H' v g := let ⟨b, h1, h2⟩ := t; ⟨b, h1, e _ _ h2⟩
def Arr (K : PySem.W.Frag) (H : Hp) (x : V) (l : Nat) (G : List (List Nat)) : Prop := ∃ a dx L ls, x = .ref a ∧ H a = some (.ins (aCls K) dx [("lane", nV l), ("rows", .ref L)]) ∧ H L = some (.lst ls) ∧ Paired (Lst H) ls G
theorem Arr.ext {K : PySem.W.Frag} {H H' : Hp} {x : V} {l : Nat} {G : List (List Nat)} (t : Arr K H x l G) (e : Ext H H') : Arr K H' x l G := let ⟨a, dx, L, ls, h1, h2, h3, h4⟩ := t; ⟨a, dx, L, ls, h1, e _ _ h2, e _ _ h3, L2.Paired.mapP h4 fun _ _ k => k.ext e⟩
/-- a chain of arrows from a spot -/
def Chn (G : List (List Nat)) : Nat → List Nat → Prop
  | _, [] => True
  | s, y :: c => y ∈ (G[s]?).getD [] ∧ Chn G (1 + y) c
def LstN (D : Addr) (H : Hp) (v : V) (g : List Nat) : Prop := ∃ b, v = .ref b ∧ b ≠ D ∧ H b = some (.lst (nVs g))
theorem LstN.put {D : Addr} {H H' : Hp} {v : V} {g : List Nat} {o : HO} (t : LstN D H v g) (e : Ext H H') : LstN D (L2.upd H' D o) v g := let ⟨b, h1, h2, h3⟩ := t; ⟨b, h1, h2, by rw [upd_ne h2]; exact e _ _ h3⟩
theorem LstN.lst {D : Addr} {H : Hp} {v : V} {g : List Nat} (t : LstN D H v g) : Lst H v g := let ⟨b, h1, _, h3⟩ := t; ⟨b, h1, h3⟩
theorem get_len {α : Type} {l : List α} {i : Nat} {x : α} (h : l[i]? = some x) : i < l.length := (List.getElem?_eq_some_iff.mp h).1
theorem paired_getR {α β : Type} {F : α → β → Prop} {l : List α} {m : List β} (i : Nat) (h : Paired F l m) (hi : i < m.length) : ∃ x y, l[i]? = some x ∧ m[i]? = some y ∧ F x y := by
  obtain ⟨x, h1, h2⟩ := paired_get i m[i] h (List.getElem?_eq_getElem hi)
  exact ⟨x, _, h1, List.getElem?_eq_getElem hi, h2⟩
section
variable {w : World} {K : PySem.W.Frag} {mg : Str → Option Value} {base : Heap}
def spInit (K : PySem.W.Frag) : Sp := fun vs H Q _ => ∃ a dx r R l, vs = [.ref a, r, nV l] ∧ H a = some (.ins (aCls K) dx []) ∧ Tt H r R ∧ R.length ≤ 60 ∧ (∀ p ∈ R, l ∈ p ∧ p.length ≤ 60) ∧
  ∀ H' G, (∀ b o, b ≠ a → H b = some o → H' b = some o) → Arr K H' (.ref a) l G → GOk l R G → Q .non H'
theorem sc_init : FnScope ["self", "rule", "lane", "preference"] ["self", "rule", "lane"] (defScope (inCls 0 (topSt 30))) := ⟨rfl, rfl, rfl, by decide +kernel, rfl, by decide +kernel, by decide +kernel⟩
theorem ok_init (m : Md K mg) : OkD w K mg base 2 (He.ma K (aCls K) "__init__") m.e_init ["self", "rule", "lane"] (spInit K) := by
  refine m.E_init.ok sc_init (fun vs H Q E h => ?_) (fun cdv A outer s H vs Q E hr h => ⟨_, PSs.nox (pss_cons (ps_fld (pv 0) (pv 2) (by rfl))
    (pss_one (ps_fld (pv 0) (pe_lc (own := [("preference", 3)]) (g := gName 3) (tt := tYes) rfl sc_init.nd (pi_tup (pv 1)) (blkOk_by (own := [("preference", 3)]) (N := ["self", "rule", "lane", "preference"]) (sc := defScope (inCls 0 (topSt 30))) (by decide +kernel)) (fun _ _ _ _ _ => pg_name (i := 3) sc_init.nd rfl (Or.inl rfl)) (fun _ _ _ _ _ => pts_nil)
        (fun _ _ _ _ _ => pe_call (ok_lanes_ahead m) hr rfl m.g_lanes_ahead m.F_lanes_ahead.kp m.b_lanes_ahead .nil pass0 (pa_cons (pv 3) (pa_cons (pv 2) pa_nil)))) (by rfl)))), ?_⟩)
  · obtain ⟨a, dx, r, R, l, rfl, _⟩ := h; rfl
  · obtain ⟨a, dx, r, R, l, rfl, ha, ⟨b, vs, rfl, hb, hvs⟩, lR, hR, q⟩ := h
    have lv := paired_len hvs
    refine ⟨_, rfl, _, rfl, a, _, dx, [], rfl, ha, m.cls, m.noLane, by decide, ?_⟩
    have nab : b ≠ a := fun z => by
      rw [z] at hb
      rcases hb with hb | ⟨o, hb⟩ <;> rw [ha] at hb <;> cases hb
    have eb : ∀ (H' : Hp) (c : Addr) (o : HO), c ≠ a → H c = some o → L2.upd H a (.ins (aCls K) dx (putF "lane" (nV l) [])) c = some o := fun H' c o hc e => by rw [upd_ne hc]; exact e
    have a0 : L2.upd H a (.ins (aCls K) dx (putF "lane" (nV l) [])) a = some (.ins (aCls K) dx [("lane", nV l)]) := upd_same
    have keep := eb H
    clear eb
    generalize L2.upd H a (.ins (aCls K) dx (putF "lane" (nV l) [])) = H0 at a0 keep
    have tkeep : ∀ v p, Pf H v p → Pf H0 v p := fun v p ⟨c, o, h1, h2, h3⟩ => ⟨c, o, h1, keep _ _ (fun z => by rw [z, ha] at h2; cases h2) h2, h3⟩
    have hb0 : Ta H0 b vs := hb.imp (keep _ _ nab) fun ⟨o, h⟩ => ⟨o, keep _ _ nab h⟩
    have hv0 : Tns H0 vs R := L2.Paired.mapP hvs fun _ _ k => tkeep _ _ k
    refine ⟨_, rfl, b, rfl, ⟨_, .inl hb0⟩, fun D new => lc_tup (K := K) (xs := vs) (LcP H0 D fun i acc H1 => ∃ G, Paired (LstN D H1) acc G ∧ GOk l (R.take i) G) (LcP.start new ⟨[], .nil, .nil⟩) (fun i H1 _ p => .inl (ta_ext hb0 p.1)) (fun i x H1 hx p => ?_) fun H1 p => ?_⟩
    · obtain ⟨e1, acc, hD, hacc, G, hG, hok⟩ := p
      have hi := get_len hx
      obtain ⟨pf, hpf, hp⟩ := paired_getL i x hv0 hx
      have hl := hR pf (List.mem_of_getElem? hpf)
      refine ⟨wipe_one _ 3 _, yesT ⟨_, rfl, _, rfl, x, pf, l, rfl, hp.ext e1, hl.1, hl.2, fun c g H2 nc e2 pm hc => ?_⟩⟩
      refine LcP.put new e1 hD hacc (by omega) e2 ?_
      have n1 : c ≠ D := fun z => by rw [z, hD] at nc; cases nc
      refine ⟨G ++ [g], paired_app (L2.Paired.mapP hG fun _ _ k => k.put e2) (.cons ⟨c, rfl, n1, by rw [upd_ne n1]; exact hc⟩ .nil), ?_⟩
      rw [List.take_add_one, hpf]
      exact paired_app hok (.cons pm .nil)
    · obtain ⟨e1, acc, hD, hacc, G, hG, hok⟩ := p
      rw [lv, List.take_length] at hok
      refine ⟨_, rfl, a, _, dx, [("lane", nV l)], rfl, e1 _ _ a0, m.cls, m.noRows, by show 1 < 1000; decide, ?_⟩
      have nD : D ≠ a := fun z => by rw [z, a0] at new; cases new
      refine q _ G (fun c o hc h => by rw [upd_ne hc]; exact e1 _ _ (keep _ _ hc h)) ⟨a, dx, D, acc, rfl, upd_same, by rw [upd_ne nD]; exact hD, L2.Paired.mapP hG fun v g ⟨c, h1, h2, h3⟩ => ⟨c, h1, ?_⟩⟩ hok
      have nc : c ≠ a := fun z => by rw [z, e1 _ _ a0] at h3; cases h3
      rw [upd_ne nc]; exact h3
/-! ### longest_from -/
def spLong (K : PySem.W.Frag) (d : Nat) : Sp := fun vs H Q _ => ∃ x l G s, vs = [x, nV s] ∧ Arr K H x l G ∧ s < G.length ∧ (∀ g ∈ G, ∀ y ∈ g, 1 + y < G.length) ∧ (∀ c, Chn G s c → c.length < d) ∧ d ≤ 60 ∧
  ∀ v f H', Ext H H' → Tn H' v f → Chn G s f → (∀ c, Chn G s c → c.length ≤ f.length) → Q v H'
theorem sc_longest : FnScope ["self", "spot", "found", "lane", "more"] ["self", "spot"] (defScope (inCls 4 (topSt 30))) := ⟨rfl, rfl, rfl, by decide +kernel, rfl, by decide +kernel, by decide +kernel⟩
theorem ok_longest (m : Md K mg) : ∀ d, OkD w K mg base d (He.ma K (aCls K) "longest_from") m.e_longest_from ["self", "spot"] (spLong K d)
  | 0 => ⟨fun vs H Q E h => by obtain ⟨x, l, G, s, _, _, _, _, h, _⟩ := h; exact absurd (h [] trivial) (by decide), fun A outer s H args us vs Q E _ _ _ _ h => by obtain ⟨x, l, G, s, _, _, _, _, h, _⟩ := h; exact absurd (h [] trivial) (by decide)⟩
  | d + 1 => by
    refine m.E_longest_from.ok sc_longest (fun vs H Q E h => ?_) (fun cdv A outer s H vs Q E hr h => ⟨_, PSs.nox (pss_cons (ps_set (i := 2) sc_longest.nd rfl (Or.inl rfl) (pe_tup pa_nil))
      (pss_cons (ps_for PassesOwn.never rfl (pi_list (pe_ix ix_list (pe_fld (pv 0) (by rfl)) (pv 1) (fun _ _ => rfl))) (pg_name (i := 3) sc_longest.nd rfl (Or.inl rfl))
        (pss_cons (ps_set (i := 4) sc_longest.nd rfl (Or.inl rfl) (pe_tup (pa_cons (pv 3) (pa_star (pe_meth (pv 0) m.cls m.m_longest_from (ok_longest m d) hr m.eb_longest_from .nil pass0 (pa_cons (pe_op op_add pe_int (pv 3)) pa_nil)) pa_nil))))
          (pss_one (ps_if (pt_cmpR op_gt (pe_callB call_len_seq (by rfl) m.n_len PySem.boot_len (pa_cons (pv 4) pa_nil)) (pe_callB call_len_seq (by rfl) m.n_len PySem.boot_len (pa_cons (pv 2) pa_nil)) (nomark _)) (pss_one (ps_set (i := 2) sc_longest.nd rfl (Or.inl rfl) (pv 4))) pss_nil))))
      (pss_one (ps_ret (pv 2))))), ?_⟩)
    · obtain ⟨x, l, G, s, rfl, _⟩ := h; rfl
    · obtain ⟨x, l, G, s, rfl, ar, hs, hG, hc, hd, q⟩ := h
      have ar' := ar
      obtain ⟨a, dx, L, ls, rfl, h1, h2, h3⟩ := ar
      obtain ⟨xb, g, hx, hg, b, rfl, hb⟩ := paired_getR s h3 hs
      have gmem := List.mem_of_getElem? hg
      refine ⟨by show 0 ≤ sizeLine; decide, fun t0 ht0 => ?_⟩
      have e0 : Ext H (L2.upd H t0 (.tup [])) := Ext.upd ht0
      have w0 : Tn (L2.upd H t0 (.tup [])) (V.ref t0) [] := ⟨t0, rfl, .inl upd_same⟩
      generalize L2.upd H t0 (.tup []) = H0 at e0 w0
      refine ⟨_, rfl, a, _, dx, _, _, rfl, e0 _ _ h1, m.cls, m.noRows, rfl, _, rfl, L, ls, (s : Int), V.ref b, rfl, rfl, SqL.of (e0 _ _ h2), atI_nat hx, b, rfl, ⟨_, SqL.of (e0 _ _ hb)⟩, for_list (xs := nVs g) (fun i σ' H' => Ext H H' ∧ ∃ vf f x3 x4, Tn H' vf f ∧ Chn G s f ∧ (∀ y ∈ g.take i, ∀ c, Chn G (1 + y) c → c.length + 1 ≤ f.length) ∧
        σ' = [some (V.ref a), some (nV s), some vf, x3, x4]) ⟨e0, _, [], _, _, w0, trivial, (by intro y hy; simp at hy), rfl⟩ (fun i σ' H' _ p => SqL.of (p.1 _ _ hb)) (fun i x σ' H' hx p => ?_) fun σ' H' p => ?_⟩
      · obtain ⟨e1, vf, f, x3, x4, tf, cf, bf, rfl⟩ := p
        obtain ⟨y, hy, rfl⟩ := nVs_get hx
        have ymem := List.mem_of_getElem? hy
        have hsub : ∀ c, Chn G (1 + y) c → Chn G s (y :: c) := fun c h => ⟨by rw [hg]; exact ymem, h⟩
        refine ⟨_, rfl, _, rfl, a, dx, _, rfl, e1 _ _ h1, rfl, _, rfl, _, _, rfl, rfl, .ref a, l, G, 1 + y, congrArg (fun z => [V.ref a, V.int z]) (show (1 : Int) + (y : Int) = ((1 + y : Nat) : Int) by omega), ar'.ext e1, hG _ gmem _ ymem, hG, (fun c h => by
          have := hc _ (hsub c h)
          simp only [List.length_cons] at this; omega), by omega, fun v f2 H2 e2 t2 c2 m2 => ?_⟩
        obtain ⟨b2, rfl, hb2⟩ := t2
        have lf2 := hc _ (hsub _ c2)
        simp only [List.length_cons] at lf2
        refine ⟨b2, _, rfl, .inl (.inl hb2), by rw [List.append_nil, List.length_cons, nVs_len, sizeLine_eq]; omega, fun t ht => ?_⟩
        have e3 : Ext H2 (L2.upd H2 t (.tup (nV y :: (nVs f2 ++ [])))) := Ext.upd ht
        have t3 : Ta (L2.upd H2 t (.tup (nV y :: (nVs f2 ++ [])))) t (nVs (y :: f2)) := .inl (by rw [upd_same, List.append_nil]; rfl)
        generalize L2.upd H2 t (.tup (nV y :: (nVs f2 ++ []))) = H3 at e3 t3
        obtain ⟨bf0, rfl, hbf⟩ := tf
        have tf3 := ta_ext hbf (e2.trans e3)
        refine ⟨_, rfl, t, _, rfl, .inr (.inl t3), _, rfl, bf0, _, rfl, .inr (.inl tf3), _, _, rfl, rfl, ?_⟩
        rw [nVs_len, nVs_len]
        refine ⟨_, rfl, ?_⟩
        show if decide (((y :: f2).length : Int) > (f.length : Int)) = true then _ else _
        have new : ∀ (f' : List Nat), (f'.length ≥ f.length) → f'.length ≥ (y :: f2).length → ∀ z ∈ g.take (i + 1), ∀ c, Chn G (1 + z) c → c.length + 1 ≤ f'.length := fun f' h1 h2 z hz c hcz => by
          rw [List.take_add_one, hy] at hz
          rcases List.mem_append.mp hz with hz | hz
          · have := bf z hz c hcz
            omega
          · obtain rfl : z = y := by simpa using hz
            have := m2 c hcz
            rw [List.length_cons] at h2; omega
        by_cases hlt : ((y :: f2).length : Int) > (f.length : Int)
        · rw [decide_eq_true hlt]
          exact iteT ⟨_, rfl, (e1.trans e2).trans e3, _, y :: f2, _, _, ⟨t, rfl, t3⟩, hsub _ c2, new _ (by omega) (Nat.le_refl _), rfl⟩
        · rw [decide_eq_false hlt]
          exact iteF ⟨(e1.trans e2).trans e3, _, f, _, _, ⟨bf0, rfl, tf3⟩, cf, new _ (Nat.le_refl _) (by omega), rfl⟩
      · obtain ⟨e1, vf, f, x3, x4, tf, cf, bf, rfl⟩ := p
        refine ⟨_, rfl, q _ f _ e1 tf cf fun c h => ?_⟩
        rw [nVs_len, List.take_length] at bf
        cases c with
        | nil => exact Nat.zero_le _
        | cons y c =>
          rw [Chn, hg] at h
          exact bf y h.1 c h.2
/-! ### all_longest -/
/-- one longest chain from each spot -/
def Longs (G F : List (List Nat)) : Prop := F.length = G.length ∧ ∀ s f, F[s]? = some f → Chn G s f ∧ ∀ c, Chn G s c → c.length ≤ f.length
def spAllLong (K : PySem.W.Frag) (d : Nat) : Sp := fun vs H Q _ => ∃ x l G, vs = [x] ∧ Arr K H x l G ∧ G.length ≤ 60 ∧ (∀ g ∈ G, ∀ y ∈ g, 1 + y < G.length) ∧ (∀ s, s < G.length → ∀ c, Chn G s c → c.length < d) ∧ d ≤ 60 ∧
  ∀ D vs' F H', Ext H H' → H' D = some (.lst vs') → Paired (Tn H') vs' F → Longs G F → Q (.ref D) H'
theorem sc_alllong : FnScope ["self", "spot"] ["self"] (defScope (inCls 5 (topSt 30))) := ⟨rfl, rfl, rfl, by decide +kernel, rfl, by decide +kernel, by decide +kernel⟩
theorem ok_all_longest (m : Md K mg) (d : Nat) : OkD w K mg base (d + 1) (He.ma K (aCls K) "all_longest") m.e_all_longest ["self"] (spAllLong K d) := by
  refine m.E_all_longest.ok sc_alllong (fun vs H Q E h => ?_) (fun cdv A outer s H vs Q E hr h => ⟨_, PSs.nox (pss_one (ps_ret (pe_lc (own := [("spot", 1)]) (g := gName 1) (tt := tYes) (te := tMeth (aCls K) "longest_from" (spLong K d) [] _ (tVar 0) _) rfl sc_alllong.nd (pi_range1 (by rfl) m.n_range (pa_cons (pe_callB call_len_seq (by rfl) m.n_len PySem.boot_len (pa_cons (pe_fld (pv 0) (by rfl)) pa_nil)) pa_nil))
      (blkOk_by (own := [("spot", 1)]) (N := ["self", "spot"]) (sc := defScope (inCls 5 (topSt 30))) (by decide +kernel)) (fun _ _ _ _ _ => pg_name (i := 1) sc_alllong.nd rfl (Or.inl rfl)) (fun _ _ _ _ _ => pts_nil)
      (fun _ _ _ _ _ => pe_meth (pv 0) m.cls m.m_longest_from (ok_longest m d) hr m.eb_longest_from .nil pass0 (pa_cons (pv 1) pa_nil))))), ?_⟩)
  · obtain ⟨x, l, G, rfl, _⟩ := h; rfl
  · obtain ⟨x, l, G, rfl, ar, l60, hG, hc, hd, q⟩ := h
    have ar' := ar
    obtain ⟨a, dx, L, ls, rfl, h1, h2, h3⟩ := ar
    have ll := paired_len h3
    refine ⟨_, rfl, a, _, dx, _, _, rfl, h1, m.cls, m.noRows, rfl, _, _, rfl, .inl (SqL.of h2), ls.length, rfl, by omega, by omega, fun D new => ?_⟩
    have en : ((ls.length : Nat) : Int).toNat = G.length := by rw [ll]; rfl
    rw [en]
    refine lc_range (lo := 0) (n := G.length) (LcP H D fun i acc H' => ∃ F, Paired (Tn H') acc F ∧ F.length = i ∧ ∀ s f, F[s]? = some f → Chn G s f ∧ ∀ c, Chn G s c → c.length ≤ f.length) (LcP.start new ⟨[], .nil, rfl, fun s f h => by simp at h⟩) (fun i H2 hi p => ?_) fun H2 p => ?_
    · obtain ⟨e2, acc, hD, hacc, F, hF, lF, mF⟩ := p
      refine ⟨wipe_one _ 1 _, yesT ?_⟩
      refine ⟨_, rfl, a, dx, _, rfl, e2 _ _ h1, rfl, _, rfl, .ref a, l, G, i, congrArg (fun z => [V.ref a, V.int z]) (Int.zero_add _), ar'.ext e2, hi, hG, hc i hi, hd, fun v f H3 e3 tf cf mf => ?_⟩
      refine LcP.put new e2 hD hacc (by omega) e3 ⟨F ++ [f], paired_app (L2.Paired.mapP hF fun _ _ k => k.extT (e3.tup.put (e3 _ _ hD))) (.cons (tf.extT (Ext.rfl.tup.put (e3 _ _ hD))) .nil), by rw [List.length_append, lF]; rfl, fun s f' hf => ?_⟩
      by_cases hs : s < F.length
      · rw [List.getElem?_append_left hs] at hf
        exact mF s f' hf
      · rw [List.getElem?_append_right (by omega)] at hf
        have := get_len hf
        obtain rfl : s = i := by simp only [List.length_cons, List.length_nil] at this; omega
        rw [lF, Nat.sub_self] at hf
        have ef : f = f' := Option.some.inj hf
        exact ef ▸ ⟨cf, mf⟩
    · obtain ⟨e2, acc, hD, hacc, F, hF, lF, mF⟩ := p
      exact q D acc F H2 e2 hD hF ⟨lF, mF⟩
/-! ### favoured -/
def favd (R : List (List Nat)) (l : Nat) (o : Option Nat) : List (List Nat) := R.set (spot o) (l :: ((R[spot o]?).getD []).filter fun x => x != l)
def spFav : Sp := fun vs H Q _ => ∃ r R l o, vs = [r, nV l, lastV o] ∧ Tt H r R ∧ l + 1 < R.length ∧ R.length ≤ 60 ∧ spot o < R.length ∧ (∀ p ∈ R, p.length ≤ 60) ∧ ∀ v H', Ext H H' → Tt H' v (favd R l o) → Q v H'
theorem sc_fav : FnScope ["rule", "lane", "last", "spot", "preference", "one"] ["rule", "lane", "last"] (defScope (topSt 34)) := ⟨rfl, rfl, rfl, by decide +kernel, rfl, by decide +kernel, by decide +kernel⟩
theorem set_split {α : Type} (l : List α) (i : Nat) (x : α) (h : i < l.length) : l.take i ++ (x :: l.drop (i + 1)) = l.set i x := (List.set_eq_take_append_cons_drop).trans (if_pos h) |>.symm
theorem paired_take {α β : Type} {F : α → β → Prop} : ∀ {l : List α} {m : List β} (i : Nat), Paired F l m → Paired F (l.take i) (m.take i)
  | _, _, 0, _ => .nil
  | _, _, i + 1, .nil => .nil
  | _, _, i + 1, .cons a b => .cons a (paired_take i b)
theorem paired_drop {α β : Type} {F : α → β → Prop} : ∀ {l : List α} {m : List β} (i : Nat), Paired F l m → Paired F (l.drop i) (m.drop i)
  | _, _, 0, h => h
  | _, _, i + 1, .nil => .nil
  | _, _, i + 1, .cons a b => paired_drop i b
theorem ok_favoured (m : Md K mg) : OkD w K mg base 4 (He.ga K "favoured") m.d_favoured ["rule", "lane", "last"] spFav := by
  refine m.F_favoured.ok sc_fav (fun vs H Q E h => ?_) (fun cdv A outer s H vs Q E hr h => ⟨_, PSs.nox (pss_cons (ps_expr (pe_call (ok_check_lane m) (hr.mono (by decide)) rfl m.g_check_lane m.F_check_lane.kp m.b_check_lane .nil pass0 (pa_cons (pv 0) (pa_cons (pv 1) pa_nil))))
    (pss_cons (ps_expr (pe_call (ok_check_last m) hr rfl m.g_check_last m.F_check_last.kp m.b_check_last .nil pass0 (pa_cons (pv 0) (pa_cons (pv 2) pa_nil))))
    (pss_cons (ps_set (i := 3) sc_fav.nd rfl (Or.inl rfl) (pe_call (ok_spot_of m) (hr.mono (by decide)) rfl m.g_spot_of m.F_spot_of.kp m.b_spot_of .nil pass0 (pa_cons (pv 2) pa_nil)))
    (pss_cons (ps_set (i := 4) sc_fav.nd rfl (Or.inl rfl) (pe_tupF (pa_cons (pv 1) (pa_star (pe_lc (own := [("one", 5)]) (g := gName 5) rfl sc_fav.nd (pi_tup (pe_ix ix_tup (pv 0) (pv 3) (fun _ _ => rfl))) (blkOk_by (own := [("one", 5)]) (N := ["rule", "lane", "last", "spot", "preference", "one"]) (sc := defScope (topSt 34)) (by decide +kernel)) (fun _ _ _ _ _ => pg_name (i := 5) sc_fav.nd rfl (Or.inl rfl))
            (fun _ _ _ _ _ => pts_one (pt_cmpR op_ne (pv 5) (pv 1) (nomark _))) (fun _ _ _ _ _ => pv 5)) pa_nil))))
    (pss_one (ps_ret (pe_tup (pa_star (pe_slice sl_tupA (pv 0) po_none (po_some (pv 3))) (pa_cons (pv 4) (pa_star (pe_slice sl_tupA (pv 0) (po_some (pe_op op_add (pv 3) pe_int)) po_none) pa_nil)))))))))), ?_⟩)
  · obtain ⟨r, R, l, o, rfl, _⟩ := h; rfl
  · obtain ⟨r, R, l, o, rfl, ⟨a, vs, rfl, ha, hv⟩, hl, lR, hs, hp, q⟩ := h
    have lv := paired_len hv
    refine ⟨_, rfl, _, rfl, a, vs, l, rfl, ha, by omega, ?_⟩
    refine ⟨_, rfl, _, rfl, a, vs, o, rfl, ha, by omega, ?_⟩
    refine ⟨_, rfl, o, rfl, ?_⟩
    obtain ⟨pv0, p, hpv, hpR, b, ob, rfl, hb, hob⟩ := paired_getR (spot o) hv hs
    have lp := hp p (List.mem_of_getElem? hpR)
    refine ⟨_, rfl, ?_⟩
    dsimp only [tTupF, tStar]
    refine lc_filter (l := p) (fun x => x != l) (by show 5 < 6; decide) (by omega) (.inr ⟨ob, hb⟩) (fun R r => ⟨_, rfl, _, rfl, a, _, (spot o : Int), V.ref b, rfl, rfl, .inl ha, atI_nat hpv, r⟩) (fun x _ H' Q' e q' => ⟨_, rfl, _, rfl, rfl, _, rfl, ?_⟩) fun D H3 new e3 hD => ?_
    · have ee : (!decide (nV x = nV l)) = (x != l) := by
        by_cases hxi : x = l
        · subst hxi; simp
        · have h2 : ¬ (nV x = nV l) := fun z => hxi (by injection z with z; omega)
          rw [decide_eq_false h2]; simp [hxi]
      show Q' (!decide (nV x = nV l)) H'
      rw [ee]; exact q'
    · refine ⟨D, _, rfl, .inr (SqL.of hD), ?_, fun t ot ht hot => ?_⟩
      · rw [sizeLine_eq]
        have := List.length_filter_le (fun x => x != l) p
        simp only [List.length_append, List.length_map, List.length_cons, List.length_nil]
        omega
      have e4 : Ext H (L2.upd H3 t (.frz ot (.tup (nV l :: (nVs (p.filter fun x => x != l) ++ []))))) := e3.put ht
      have pf : Pf (L2.upd H3 t (.frz ot (.tup (nV l :: (nVs (p.filter fun x => x != l) ++ []))))) (.ref t) (l :: p.filter fun x => x != l) := ⟨t, ot, rfl, by rw [upd_same, List.append_nil]; rfl, hot⟩
      generalize L2.upd H3 t (.frz ot (.tup (nV l :: (nVs (p.filter fun x => x != l) ++ [])))) = H4 at e4 pf
      have ha4 := ta_ext ha e4
      refine ⟨_, rfl, _, rfl, ?_⟩
      dsimp only [tNoPart]
      refine ⟨_, rfl, sl_any ha4 fun v1 H5 e5 ⟨b1, h1b, hb1⟩ => ?_⟩
      subst h1b
      rw [cut_to _ _ (by omega)] at hb1
      refine ⟨b1, _, rfl, .inl (.inl hb1), _, rfl, _, rfl, _, rfl, _, _, rfl, rfl, ?_⟩
      dsimp only [tNoPart]
      have cs : ((spot o : Int) + 1) = ((spot o + 1 : Nat) : Int) := by omega
      rw [cs]
      refine ⟨_, rfl, sl_any (ta_ext ha4 e5) fun v2 H6 e6 ⟨b2, h2b, hb2⟩ => ?_⟩
      subst h2b
      rw [cut_from _ _ (by omega)] at hb2
      refine ⟨b2, _, rfl, .inl (.inl hb2), ?_, fun t2 ht2 => ?_⟩
      · rw [sizeLine_eq]
        simp only [List.length_append, List.length_take, List.length_drop, List.length_cons, List.length_nil]
        omega
      · refine q _ _ (((e4.trans e5).trans e6).put ht2) ⟨t2, _, rfl, .inl upd_same, ?_⟩
        have el : (R[spot o]?).getD [] = p := by rw [hpR]; rfl
        have e7 := ((e4.trans e5).trans e6).put (o := .tup (vs.take (spot o) ++ V.ref t :: (vs.drop (spot o + 1) ++ []))) ht2
        show Paired _ (vs.take (spot o) ++ V.ref t :: (vs.drop (spot o + 1) ++ [])) _
        rw [List.append_nil]
        unfold favd
        rw [el, ← set_split R _ _ hs]
        rw [List.append_nil] at e7
        exact paired_app (tns_ext (paired_take _ hv) e7) (.cons (pf.ext (((e5.trans e6)).put ht2)) (tns_ext (paired_drop _ hv) e7))
end
end GG
/-! D8: the law's loom: _law_loom, _law_weave, _law_mixed. -/
namespace GG
open PySem
open PySem.Spec
open PyProof.Rows
open L2
open RR
open StX

/-- the loom: its list at a, its list of cells at b; its counter is at most c -/
def Loom (a b : Addr) (c : Nat) (H : Hp) : Prop := a ≠ b ∧ ∃ x k cells, H a = some (.lst [nV x, nV k, .ref b]) ∧ H b = some (.lst (nVs cells)) ∧ x < 2 ^ 61 ∧ k ≤ c ∧ cells.length ≤ 100
/-- all but the loom stays -/
def ExtL (a b : Addr) (H H' : Hp) : Prop := ∀ c o, c ≠ a → c ≠ b → H c = some o → H' c = some o
theorem ExtL.rfl {a b : Addr} {H : Hp} : ExtL a b H H := fun _ _ _ _ h => h
theorem ExtL.trans {a b : Addr} {H H1 H2 : Hp} (x : ExtL a b H H1) (y : ExtL a b H1 H2) : ExtL a b H H2 := fun c o h1 h2 h => y c o h1 h2 (x c o h1 h2 h)
theorem Ext.loom {a b : Addr} {H H' : Hp} (e : Ext H H') : ExtL a b H H' := fun c o _ _ h => e c o h
theorem Loom.ext {a b : Addr} {c : Nat} {H H' : Hp} (l : Loom a b c H) (e : Ext H H') : Loom a b c H' := let ⟨n, x, k, cells, h1, h2, h3⟩ := l; ⟨n, x, k, cells, e _ _ h1, e _ _ h2, h3⟩
theorem Loom.mono {a b : Addr} {c d : Nat} {H : Hp} (l : Loom a b c H) (h : c ≤ d) : Loom a b d H := let ⟨n, x, k, cells, h1, h2, h3, h4, h5⟩ := l; ⟨n, x, k, cells, h1, h2, h3, Nat.le_trans h4 h, h5⟩
theorem ExtL.set1 {a b : Addr} {H H' : Hp} {o : HO} (e : ExtL a b H H') : ExtL a b H (L2.upd H' a o) := fun c u h1 h2 h => by rw [upd_ne h1]; exact e c u h1 h2 h
theorem ExtL.set2 {a b : Addr} {H H' : Hp} {o : HO} (e : ExtL a b H H') : ExtL a b H (L2.upd H' b o) := fun c u h1 h2 h => by rw [upd_ne h2]; exact e c u h1 h2 h
theorem Loom.ne {a b p : Addr} {c : Nat} {H : Hp} (l : Loom a b c H) (h : H p = none) : p ≠ a ∧ p ≠ b := by
  obtain ⟨_, x, k, cells, h1, h2, _⟩ := l
  exact ⟨fun z => (by rw [z, h1] at h; cases h), fun z => (by rw [z, h2] at h; cases h)⟩
theorem ExtL.ta {a b p : Addr} {H H' : Hp} {c : Nat} {xs : List V} (e : ExtL a b H H') (l : Loom a b c H) (t : Ta H p xs) : Ta H' p xs := by
  obtain ⟨_, x, k, cells, h1, h2, _⟩ := l
  rcases t with t | ⟨o, t⟩
  · exact .inl (e _ _ (fun z => by rw [z, h1] at t; cases t) (fun z => by rw [z, h2] at t; cases t) t)
  · exact .inr ⟨o, e _ _ (fun z => by rw [z, h1] at t; cases t) (fun z => by rw [z, h2] at t; cases t) t⟩
theorem Loom.put {a b p : Addr} {c : Nat} {H : Hp} {o : HO} (l : Loom a b c H) (h : p ≠ a ∧ p ≠ b) : Loom a b c (L2.upd H p o) := let ⟨n, x, k, cells, h1, h2, h3⟩ := l; ⟨n, x, k, cells, by rw [upd_ne (Ne.symm h.1)]; exact h1, by rw [upd_ne (Ne.symm h.2)]; exact h2, h3⟩
theorem ExtL.put {a b p : Addr} {H H' : Hp} {o : HO} (e : ExtL a b H H') (h : H p = none) : ExtL a b H (L2.upd H' p o) := fun d u h1 h2 q => by
  have n : d ≠ p := fun z => by rw [z, h] at q; cases q
  rw [upd_ne n]; exact e d u h1 h2 q
/-- all but lists stays -/
theorem ExtL.tup {a b : Addr} {H H' : Hp} {c : Nat} (e : ExtL a b H H') (l : Loom a b c H) : ExtT H H' := fun p u n h => by
  obtain ⟨_, x, k, cells, h1, h2, _⟩ := l
  exact e _ _ (fun z => by rw [z, h1] at h; exact n _ (Option.some.inj h).symm) (fun z => by rw [z, h2] at h; exact n _ (Option.some.inj h).symm) h
theorem shaped_intsL (l : List Nat) : SeqAt.shaped (.list (l.map fun n : Nat => PyData.int (n : Int))) = true := (shaped_flat fun d hd => by
  obtain ⟨n, _, rfl⟩ := List.mem_map.mp hd
  exact ⟨rfl, rfl⟩).2
/-- a list of numbers against [] -/
theorem ne_nil {K : PySem.W.Frag} {p q : Addr} {l : List Nat} {H : Hp} {Q : VK} (hp : H p = some (.lst (nVs l))) (hq : H q = some (.lst [])) (h : Q (.bl (decide (l ≠ []))) H) : rNeD K (.ref p) (.ref q) H Q := by
  refine ⟨.list (l.map fun n : Nat => PyData.int (n : Int)), .list [], .lst (SqL.of hp) (dp_nVs l), .lst (SqL.of hq) .nil, shaped_intsL l, rfl, ?_⟩
  have e : (!PyData.eqv (.list (l.map fun n : Nat => PyData.int (n : Int))) (.list [])) = decide (l ≠ []) := by
    cases l with
    | nil => rfl
    | cons x r => simp only [List.map]; rfl
  rw [e]; exact h
theorem seq_nat {n k : Nat} (h : k < n) : seqIndex? (k : Int) n = some k := (ixN_seq (ixN_nat h)).1
theorem cast_mod (a b : Nat) : (a : Int) % (b : Int) = ((a % b : Nat) : Int) := (Int.natCast_emod a b).symm
theorem cast_div (a b : Nat) : (a : Int) / (b : Int) = ((a / b : Nat) : Int) := (Int.natCast_ediv a b).symm
theorem mod_nat (z : Int) {n : Nat} (h : 0 < n) : ∃ r : Nat, r < n ∧ z % (n : Int) = (r : Int) := by
  have h1 := Int.emod_lt_of_pos z (show (0 : Int) < n by omega)
  have h2 := Int.emod_nonneg z (show (n : Int) ≠ 0 by omega)
  generalize z % (n : Int) = t at h1 h2
  exact ⟨t.toNat, by omega, by omega⟩
theorem erase_map : ∀ (l : List Nat) (k : Nat), (nVs l).eraseIdx k = nVs (l.eraseIdx k)
  | [], _ => rfl
  | _ :: _, 0 => rfl
  | x :: r, k + 1 => congrArg (nV x :: ·) (erase_map r k)
theorem erase_perm : ∀ {l : List Nat} {k x : Nat}, l[k]? = some x → (x :: l.eraseIdx k).Perm l
  | _ :: _, 0, _, h => by
    have e := Option.some.inj h
    subst e; exact List.Perm.refl _
  | y :: r, k + 1, x, h => (List.Perm.swap y x _).trans ((erase_perm (l := r) h).cons y)
def lenAt (P : Addr) (H : Hp) : Nat := match H P with
  | some (.lst xs) => xs.length
  | _ => 0
theorem lenAt_eq {P : Addr} {H : Hp} {xs : List V} (h : H P = some (.lst xs)) : lenAt P H = xs.length := by unfold lenAt; rw [h]
theorem rg_nat (n : Nat) : rgV 0 (n : Int) = nVs (List.range n) := by
  unfold rgV
  simp
section
variable {w : World} {K : PySem.W.Frag} {mg : Str → Option Value} {base : Heap}
/-! ### _law_weave -/
def spWeave : Sp := fun vs H Q _ => ∃ a b c n, vs = [.ref a, nV n] ∧ Loom a b c H ∧ c < 2 ^ 32 ∧ 1 ≤ n ∧ n < 2 ^ 29 ∧ ∀ r H', r < n → ExtL a b H H' → Loom a b (c + 1) H' → Q (nV r) H'
theorem sc_weave : FnScope ["_law_loom_here", "_law_many", "_law_cell", "_law_mixed_here"] ["_law_loom_here", "_law_many"] (defScope (topSt 41)) := ⟨rfl, rfl, rfl, by decide +kernel, rfl, by decide +kernel, by decide +kernel⟩
theorem ok_weave (m : Md K mg) : OkD w K mg base 1 (He.ga K "_law_weave") m.d__law_weave ["_law_loom_here", "_law_many"] spWeave := by
  refine m.F__law_weave.ok sc_weave (fun vs H Q E h => ?_) (fun cdv A outer s H vs Q E hr h => ⟨_, PSs.nox (pss_cons (ps_if (pt_cmpR op_lt (pv 1) pe_int (nomark _)) (pss_one (ps_ret pe_int)) pss_nil)
    (pss_cons (ps_if (pt_cmpR (op_neD hr.units) (pe_ix ix_list (pv 0) pe_int (fun _ _ => rfl)) (pe_lst pa_nil) (nomark _))
      (pss_cons (ps_set (i := 2) sc_weave.nd rfl (Or.inl rfl) (pe_bm PySem.F.plainAttrs_list PySem.F.slot_list_pop PySem.F.type_list_pop mt_popAt (pe_ix ix_list (pv 0) pe_int (fun _ _ => rfl)) (pa_cons pe_int pa_nil)))
      (pss_cons (ps_if (pt_cmpR op_ge (pv 2) (pv 1) (nomark _)) (pss_one (ps_expr (pe_bm PySem.F.plainAttrs_list PySem.F.slot_list_insert PySem.F.type_list_insert mt_insert (pe_ix ix_list (pv 0) pe_int (fun _ _ => rfl)) (pa_cons pe_int (pa_cons (pe_op op_fdiv (pv 2) (pv 1)) pa_nil))))) pss_nil)
      (pss_one (ps_ret (pe_op op_mod (pv 2) (pv 1)))))) pss_nil)
    (pss_cons (ps_asg (pe_op op_add (pe_ix ix_list (pv 0) pe_int (fun _ _ => rfl)) pe_int) (pg_sub (pv 0) pe_int set_list))
    (pss_cons (ps_set (i := 3) sc_weave.nd rfl (Or.inl rfl) (pe_op op_mod (pe_op op_pow (pe_op op_add (pe_op op_mod (pe_ix ix_list (pv 0) pe_int (fun _ _ => rfl)) pe_int) (pe_op op_mul pe_int (pe_ix ix_list (pv 0) pe_int (fun _ _ => rfl)))) pe_int) pe_int))
    (pss_cons (ps_asg (pe_op op_mod (pe_op op_add (pe_op op_mul (pe_ix ix_list (pv 0) pe_int (fun _ _ => rfl)) pe_int) (pv 3)) pe_int) (pg_sub (pv 0) pe_int set_list))
    (pss_one (ps_ret (pe_op op_mod (pe_op op_fdiv (pe_op op_add (pe_op op_mul (pv 3) pe_int) (pe_ix ix_list (pv 0) pe_int (fun _ _ => rfl))) pe_int) (pv 1))))))))), ?_⟩)
  · obtain ⟨a, b, c, n, rfl, _⟩ := h; rfl
  · obtain ⟨a, b, c, n, rfl, lo, hc, h1, h2, q⟩ := h
    have lo' := lo
    obtain ⟨nab, x, k, cells, ha, hb, hx, hk, lc⟩ := lo
    refine ⟨_, rfl, _, _, rfl, rfl, _, rfl, ?_⟩
    show if decide ((n : Int) < 2) = true then _ else _
    by_cases hn : (n : Int) < 2
    · rw [decide_eq_true hn]
      exact iteT (q 0 H (by omega) ExtL.rfl (lo'.mono (Nat.le_succ _)))
    rw [decide_eq_false hn]
    refine iteF ⟨_, rfl, a, _, (2 : Int), V.ref b, rfl, rfl, SqL.of ha, rfl, by show 0 ≤ sizeLine; decide, fun l hl => ?_⟩
    have e0 : Ext H (L2.upd H l (.lst [])) := Ext.upd hl
    have hl0 : L2.upd H l (.lst []) l = some (.lst []) := upd_same
    generalize L2.upd H l (.lst []) = H0 at e0 hl0
    refine ne_nil (e0 _ _ hb) hl0 ⟨_, rfl, ?_⟩
    have nba : b ≠ a := Ne.symm nab
    cases cells with
    | cons y r =>
      refine iteT ⟨_, rfl, a, _, (2 : Int), V.ref b, rfl, rfl, SqL.of (e0 _ _ ha), rfl, .inl ⟨rfl, _, SqL.of (e0 _ _ hb)⟩, b, _, (0 : Int), 0, nV y, rfl, rfl, e0 _ _ hb, by decide, by decide, seq_nat (k := 0) (Nat.zero_lt_succ _), rfl, ?_⟩
      -- the cell is out
      have e1 : ExtL a b H (L2.upd H0 b (.lst (nVs r))) := e0.loom.set2
      have lo1 : L2.upd H0 b (.lst (nVs r)) a = some (.lst [nV x, nV k, .ref b]) := by rw [upd_ne nab]; exact e0 _ _ ha
      have hb1 : L2.upd H0 b (.lst (nVs r)) b = some (.lst (nVs r)) := upd_same
      show tSeq _ _ _ _ (L2.upd H0 b (.lst (nVs r)))
      generalize L2.upd H0 b (.lst (nVs r)) = H1 at e1 lo1 hb1
      refine ⟨_, rfl, _, rfl, _, _, rfl, rfl, _, rfl, ?_⟩
      show if decide ((n : Int) ≤ (y : Int)) = true then _ else _
      by_cases hy : (n : Int) ≤ (y : Int)
      · rw [decide_eq_true hy]
        refine iteT ⟨_, rfl, a, _, (2 : Int), V.ref b, rfl, rfl, SqL.of lo1, rfl, .inl ⟨rfl, _, SqL.of hb1⟩, _, rfl, _, rfl, _, _, rfl, rfl, ⟨by omega, by omega⟩, b, _, (0 : Int), _, rfl, rfl, hb1, by rw [nVs_len, sizeLine_eq]; rw [List.length_cons] at lc; omega, by decide, by decide, ?_⟩
        have e2 : ExtL a b H (L2.upd H1 b (.lst ([nV (y / n)] ++ nVs r))) := e1.set2
        have lo2 : L2.upd H1 b (.lst ([nV (y / n)] ++ nVs r)) a = some (.lst [nV x, nV k, .ref b]) := by rw [upd_ne nab]; exact lo1
        have hb2 : L2.upd H1 b (.lst ([nV (y / n)] ++ nVs r)) b = some (.lst (nVs (y / n :: r))) := upd_same
        refine ⟨_, rfl, _, rfl, _, _, rfl, rfl, by omega, ?_⟩
        show Q (.int ((y : Int) % (n : Int))) (L2.upd H1 b (.lst ([V.int ((y : Int) / (n : Int))] ++ nVs r)))
        rw [cast_mod, cast_div]
        exact q _ _ (Nat.mod_lt _ (by omega)) e2 ⟨nab, x, k, _, lo2, hb2, hx, by omega, lc⟩
      · rw [decide_eq_false hy]
        refine iteF ⟨_, rfl, _, rfl, _, _, rfl, rfl, by omega, ?_⟩
        show Q (.int ((y : Int) % (n : Int))) H1
        rw [cast_mod]
        exact q _ _ (Nat.mod_lt _ (by omega)) e1 ⟨nab, x, k, r, lo1, hb1, hx, by omega, by rw [List.length_cons] at lc; omega⟩
    | nil =>
      have ha0 := e0 _ _ ha
      have hb0 := e0 _ _ hb
      have q' : ∀ r H', r < n → ExtL a b H0 H' → Loom a b (c + 1) H' → Q (nV r) H' := fun r H' h1 h2 => q r H' h1 (e0.loom.trans h2)
      clear q
      refine iteF ⟨_, rfl, a, _, (1 : Int), nV k, rfl, rfl, SqL.of ha0, rfl, _, _, rfl, rfl, _, rfl, a, _, (1 : Int), 1, rfl, rfl, ha0, rfl, ?_⟩
      have e1 : ExtL a b H0 (L2.upd H0 a (.lst [nV x, nV (k + 1), .ref b])) := ExtL.rfl.set1
      have ha1 : L2.upd H0 a (.lst [nV x, nV (k + 1), .ref b]) a = some (.lst [nV x, nV (k + 1), .ref b]) := upd_same
      have hb1 : L2.upd H0 a (.lst [nV x, nV (k + 1), .ref b]) b = some (.lst (nVs [])) := by rw [upd_ne nba]; exact hb0
      show tSeq _ _ _ _ (L2.upd H0 a (.lst [nV x, nV (k + 1), .ref b]))
      generalize L2.upd H0 a (.lst [nV x, nV (k + 1), .ref b]) = H1 at e1 ha1 hb1
      refine ⟨_, rfl, a, _, (0 : Int), nV x, rfl, rfl, SqL.of ha1, rfl, _, _, rfl, rfl, (by show (0 : Int) < 2147483647; decide), _, rfl, a, _, (1 : Int), nV (k + 1), rfl, rfl, SqL.of ha1, rfl, _, _, rfl, rfl, .inl ⟨by decide, by decide⟩, _, _, rfl, rfl, _, _, rfl, rfl, ⟨by decide, by decide, by omega⟩, _, _, rfl, rfl, (by show (0 : Int) < 2147483629; decide), ?_⟩
      obtain ⟨M, hM, eM⟩ : ∃ M : Nat, M < 2147483629 ∧ ((x : Int) % 2147483647 + 40503 * ((k + 1 : Nat) : Int)) ^ (3 : Int).toNat % 2147483629 = (M : Int) := ⟨(((x : Int) % 2147483647 + 40503 * ((k + 1 : Nat) : Int)) ^ (3 : Int).toNat % 2147483629).toNat, by omega, by omega⟩
      have eM2 : V.int (((x : Int) % 2147483647 + 40503 * ((k + 1 : Nat) : Int)) ^ (3 : Int).toNat % 2147483629) = nV M := congrArg V.int eM
      refine ⟨_, rfl, a, _, (0 : Int), nV x, rfl, rfl, SqL.of ha1, rfl, _, _, rfl, rfl, .inl ⟨by omega, by omega⟩, _, rfl, (x : Int) * 6364136223, (M : Int), rfl, eM2, _, _, rfl, rfl, (by show (0 : Int) < 2305843009213693951; decide), ?_⟩
      obtain ⟨y, hy, ey⟩ : ∃ y : Nat, y < 2 ^ 61 ∧ ((x : Int) * 6364136223 + (M : Int)) % 2305843009213693951 = (y : Int) := ⟨(((x : Int) * 6364136223 + (M : Int)) % 2305843009213693951).toNat, by omega, by omega⟩
      refine ⟨_, rfl, a, _, (0 : Int), 0, rfl, rfl, ha1, rfl, ?_⟩
      have ey2 : V.int (((x : Int) * 6364136223 + (M : Int)) % 2305843009213693951) = nV y := congrArg V.int ey
      have e2 : ExtL a b H0 (L2.upd H1 a (.lst [nV y, nV (k + 1), .ref b])) := e1.set1
      have ha2 : L2.upd H1 a (.lst [nV y, nV (k + 1), .ref b]) a = some (.lst [nV y, nV (k + 1), .ref b]) := upd_same
      have hb2 : L2.upd H1 a (.lst [nV y, nV (k + 1), .ref b]) b = some (.lst (nVs [])) := by rw [upd_ne nba]; exact hb1
      have eH : L2.upd H1 a (.lst ([nV x, nV (k + 1), V.ref b].set 0 (V.int (((x : Int) * 6364136223 + (M : Int)) % 2305843009213693951)))) = L2.upd H1 a (.lst [nV y, nV (k + 1), .ref b]) := by rw [ey2]; rfl
      refine ⟨_, rfl, (M : Int), _, eM2, rfl, .inl ⟨by omega, by omega⟩, _, rfl, a, [nV y, nV (k + 1), .ref b], (0 : Int), nV y, rfl, rfl, SqL.of ?_, rfl, _, _, rfl, rfl, _, _, rfl, rfl, ⟨by decide, by decide⟩, _, rfl, _, _, rfl, rfl, by omega, ?_⟩
      · exact (congrFun eH a).trans ha2
      · obtain ⟨r, hr, er⟩ := mod_nat (((M : Int) * 2147483587 + (y : Int)) / 64) (show 0 < n by omega)
        show Q (V.int (((M : Int) * 2147483587 + (y : Int)) / 64 % (n : Int))) (L2.upd H1 a (.lst ([nV x, nV (k + 1), V.ref b].set 0 (V.int (((x : Int) * 6364136223 + (M : Int)) % 2305843009213693951)))))
        rw [er, eH]
        exact q' r _ hr e2 ⟨nab, y, k + 1, [], ha2, hb2, hy, by omega, by decide⟩
/-! ### _law_loom -/
theorem sql_ext {K : PySem.W.Frag} {H H' : Hp} {a : Addr} {xs : List V} (t : SqL K H a xs) (e : Ext H H') : SqL K H' a xs := t.imp (fun r => r.imp (e _ _) fun ⟨o, h⟩ => ⟨o, e _ _ h⟩) id
def spLoom (K : PySem.W.Frag) : Sp := fun vs H Q _ => ∃ (p : Addr) (ns : List Int), vs = [.ref p] ∧ SqL K H p (ns.map V.int) ∧ ns.length ≤ 90 ∧ ∀ a b H', Ext H H' → Loom a b 0 H' → Q (.ref a) H'
theorem sc_loom : FnScope ["_law_script", "_law_found", "_law_cell"] ["_law_script"] (defScope (topSt 40)) := ⟨rfl, rfl, rfl, by decide +kernel, rfl, by decide +kernel, by decide +kernel⟩
theorem ok_loom (m : Md K mg) : OkD w K mg base 1 (He.ga K "_law_loom") m.d__law_loom ["_law_script"] (spLoom K) := by
  refine m.F__law_loom.ok sc_loom (fun vs H Q E h => ?_) (fun cdv A outer s H vs Q E hr h => ⟨_, PSs.nox (pss_cons (ps_set (i := 1) sc_loom.nd rfl (Or.inl rfl) (pe_op op_add pe_int (pe_op op_mul pe_int (pe_callB call_len_seq (by rfl) m.n_len PySem.boot_len (pa_cons (pv 0) pa_nil)))))
    (pss_cons (ps_for PassesOwn.never rfl (pi_list (pv 0)) (pg_name (i := 2) sc_loom.nd rfl (Or.inl rfl))
      (pss_one (ps_set (i := 1) sc_loom.nd rfl (Or.inl rfl) (pe_op op_mod (pe_op op_add (pe_op op_add (pe_op op_mul (pv 1) pe_int) (pe_op op_mod (pv 2) pe_int)) pe_int) pe_int))))
    (pss_one (ps_ret (pe_lst (pa_cons (pv 1) (pa_cons pe_int (pa_cons (pe_lc (own := [("_law_cell", 2)]) (g := gName 2) rfl sc_loom.nd (pi_list (pv 0)) (blkOk_by (own := [("_law_cell", 2)]) (N := ["_law_script", "_law_found", "_law_cell"]) (sc := defScope (topSt 40)) (by decide +kernel)) (fun _ _ _ _ _ => pg_name (i := 2) sc_loom.nd rfl (Or.inl rfl)) (fun _ _ _ _ _ => pts_one (pt_cmpR op_ge (pv 2) (pe_op op_pow pe_int pe_int) (nomark _))) (fun _ _ _ _ _ => pv 2)) pa_nil)))))))), ?_⟩)
  · obtain ⟨p, ns, rfl, _⟩ := h; rfl
  · obtain ⟨p, ns, rfl, hp, ln, q⟩ := h
    refine ⟨_, rfl, _, _, rfl, .inl hp, _, _, rfl, rfl, .inl ⟨by decide, by decide⟩, _, _, rfl, rfl, ?_⟩
    have len : (ns.map V.int).length = ns.length := List.length_map ..
    refine ⟨_, rfl, p, rfl, ⟨_, hp⟩, for_list (xs := ns.map V.int) (fun i σ' H' => H' = H ∧ ∃ (x : Nat) (x2 : Option V), x < 2 ^ 61 ∧ σ' = [some (V.ref p), some (nV x), x2]) ⟨rfl, 104729 + 2 * ns.length, _, by omega, by rw [len] <;> rfl⟩ (fun i σ' H' _ h => by rw [h.1]; exact hp) (fun i x σ' H' hx h => ?_) fun σ' H' h => ?_⟩
    · obtain ⟨rfl, y, x2, hy, rfl⟩ := h
      obtain ⟨z, hz, rfl⟩ : ∃ z, ns[i]? = some z ∧ x = V.int z := by
        rw [List.getElem?_map] at hx
        cases e : ns[i]? with
        | none => rw [e] at hx; cases hx
        | some z => rw [e] at hx; exact ⟨z, rfl, (Option.some.inj hx).symm⟩
      obtain ⟨r, hr, er⟩ := mod_nat ((y : Int) * 1299709 + z % 4294967291 + 15485863) (n := 2305843009213693951) (by decide)
      refine ⟨_, rfl, _, _, rfl, rfl, .inl ⟨by omega, by omega⟩, _, rfl, _, _, rfl, rfl, (by show (0 : Int) < 4294967291; decide), _, _, rfl, rfl, _, _, rfl, rfl, _, _, rfl, rfl, (by show (0 : Int) < 2305843009213693951; decide), rfl, r, some (V.int z), by omega, ?_⟩
      show [some (V.ref p), some (V.int (((y : Int) * 1299709 + z % 4294967291 + 15485863) % 2305843009213693951)), some (V.int z)] = _
      rw [show ((y : Int) * 1299709 + z % 4294967291 + 15485863) % 2305843009213693951 = (r : Int) from er]
    · obtain ⟨rfl, x, x2, hx, rfl⟩ := h
      refine ⟨_, rfl, _, rfl, p, rfl, ⟨_, hp⟩, fun D new => lc_list (K := K) (xs := ns.map V.int) (LcP H' D fun i acc _ => ∃ cells : List Nat, acc = nVs cells) (LcP.start new ⟨[], rfl⟩) (fun i H1 _ q => sql_ext hp q.1) (fun i y H1 hy q => ?_) fun H1 q2 => ?_⟩
      · obtain ⟨e1, acc, hD, hacc, cells, rfl⟩ := q
        have hi := get_len hy
        obtain ⟨z, hz, rfl⟩ : ∃ z, ns[i]? = some z ∧ y = V.int z := by
          rw [List.getElem?_map] at hy
          cases e : ns[i]? with
          | none => rw [e] at hy; cases hy
          | some z => rw [e] at hy; exact ⟨z, rfl, (Option.some.inj hy).symm⟩
        refine ⟨wipe_one _ 2 _, _, rfl, _, _, rfl, rfl, ⟨by decide, by decide, by decide⟩, _, _, rfl, rfl, _, rfl, ?_⟩
        show if decide ((10 : Int) ^ (18 : Int).toNat ≤ z) = true then _ else _
        by_cases hb : (10 : Int) ^ (18 : Int).toNat ≤ z
        · rw [decide_eq_true hb, if_pos rfl]
          refine ⟨_, get_one (by show 2 < 3; decide), LcP.put new e1 hD hacc (by omega) Ext.rfl ⟨cells ++ [z.toNat], ?_⟩⟩
          have : (0 : Int) ≤ z := by
            have h0 : (0 : Int) ≤ (10 : Int) ^ (18 : Int).toNat := by decide
            omega
          rw [nVs_app]
          show _ = nVs cells ++ [V.int (z.toNat : Int)]
          rw [Int.toNat_of_nonneg this]
        · rw [decide_eq_false hb, if_neg Bool.false_ne_true]
          exact LcP.skip e1 hD hacc Ext.rfl ⟨cells, rfl⟩
      · obtain ⟨e1, acc, hD, hacc, cells, rfl⟩ := q2
        refine ⟨by show 3 ≤ sizeLine; decide, fun a ha => q a D _ (e1.put ha) ⟨fun z => (by rw [z, hD] at ha; cases ha), x, 0, cells, upd_same, Ext.upd ha _ _ hD, hx, Nat.le_refl _, ?_⟩⟩
        rw [nVs_len] at hacc
        omega
/-! ### _law_mixed -/
def spMixed : Sp := fun vs H Q _ => ∃ a b c n, vs = [.ref a, nV n] ∧ Loom a b c H ∧ c + n < 2 ^ 32 ∧ n ≤ 90 ∧ ∀ v l H', ExtL a b H H' → Loom a b (c + n) H' → Pf H' v l → Prm l n → Q v H'
theorem sc_mixed : FnScope ["_law_loom_here", "_law_many", "_law_pool", "_law_found"] ["_law_loom_here", "_law_many"] (defScope (topSt 42)) := ⟨rfl, rfl, rfl, by decide +kernel, rfl, by decide +kernel, by decide +kernel⟩
theorem ok_mixed (m : Md K mg) : OkD w K mg base 2 (He.ga K "_law_mixed") m.d__law_mixed ["_law_loom_here", "_law_many"] spMixed := by
  refine m.F__law_mixed.ok sc_mixed (fun vs H Q E h => ?_) (fun cdv A outer s H vs Q E hr h => ⟨_, PSs.nox (pss_cons (ps_par (i := 2) (j := 3) rfl sc_mixed.nd rfl rfl (by decide) rfl rfl (pa_cons (pe_listRg rfl (by rfl) m.n_list (prg_1 (by rfl) m.n_range (pv 1))) (pa_cons (pe_lst pa_nil) pa_nil)) (by rfl))
    (pss_cons (ps_while PassesOwn.never (pt_cmpR (op_neD hr.units) (pv 2) (pe_lst pa_nil) (nomark _))
      (pss_one (ps_expr (pe_bm PySem.F.plainAttrs_list PySem.F.slot_list_append PySem.F.type_list_append mt_append (pv 3) (pa_cons (pe_bm PySem.F.plainAttrs_list PySem.F.slot_list_pop PySem.F.type_list_pop mt_popAt (pv 2) (pa_cons (pe_call (ok_weave m) hr rfl m.g__law_weave m.F__law_weave.kp m.b__law_weave .nil pass0 (pa_cons (pv 0) (pa_cons (pe_callB call_len_seq (by rfl) m.n_len PySem.boot_len (pa_cons (pv 2) pa_nil)) pa_nil))) pa_nil)) pa_nil)))))
    (pss_one (ps_ret (pe_tupleOfF (by rfl) m.n_tuple (pv 3)))))), ?_⟩)
  · obtain ⟨a, b, c, n, rfl, _⟩ := h; rfl
  · obtain ⟨a, b, c, n, rfl, lo, hc, hn, q⟩ := h
    refine ⟨_, rfl, _, rfl, RgOk.of_le (by omega) (by omega) (by omega) (by omega), fun P hP => ⟨by show 0 ≤ sizeLine; decide, fun F hF => ?_⟩⟩
    have nP := lo.ne hP
    rw [rg_nat] at hF ⊢
    have e1 : Ext H (L2.upd H P (.lst (nVs (List.range n)))) := Ext.upd hP
    have nF := (lo.ext e1).ne hF
    have nPF : P ≠ F := fun z => by rw [← z, upd_same] at hF; cases hF
    have nF0 := e1.none hF
    have e2 : Ext H (L2.upd (L2.upd H P (.lst (nVs (List.range n)))) F (.lst [])) := e1.put hF
    have aP : L2.upd (L2.upd H P (.lst (nVs (List.range n)))) F (.lst []) P = some (.lst (nVs (List.range n))) := by rw [upd_ne nPF]; exact upd_same
    have aF : L2.upd (L2.upd H P (.lst (nVs (List.range n)))) F (.lst []) F = some (.lst (nVs [])) := upd_same
    generalize L2.upd (L2.upd H P (.lst (nVs (List.range n)))) F (.lst []) = H0 at e2 aP aF
    refine ⟨_, _, rfl, while_by (fun σ' H' => ∃ pool found, σ' = [some (V.ref a), some (nV n), some (V.ref P), some (V.ref F)] ∧ ExtL a b H H' ∧ Loom a b (c + found.length) H' ∧ H' P = some (.lst (nVs pool)) ∧ H' F = some (.lst (nVs found)) ∧ (found ++ pool).Perm (List.range n)) (fun _ H' => lenAt P H')
      ⟨List.range n, [], rfl, e2.loom, lo.ext e2, aP, aF, List.Perm.refl _⟩ (fun σ' H1 p => ?_) (fun σ H Q Q' h ⟨v, hv, hz, hq⟩ => ⟨v, hv, hz, fun l hl => by
        obtain ⟨d, e, a1, a2, a3, a4, k, hk, q⟩ := hq l hl
        exact ⟨d, e, a1, a2, a3, a4, k, hk, h _ _ q⟩⟩)⟩
    obtain ⟨pool, found, rfl, x1, lo1, hP1, hF1, pm⟩ := p
    have lsum := pm.length_eq
    rw [List.length_append, List.length_range] at lsum
    refine ⟨_, rfl, by show 0 ≤ sizeLine; decide, fun l hl => ?_⟩
    have nl := lo1.ne hl
    have x2 : ExtL a b H (L2.upd H1 l (.lst [])) := x1.trans (Ext.upd hl).loom
    have lo2 := lo1.ext (Ext.upd (o := .lst []) hl)
    have hP2 := Ext.upd (o := .lst []) hl _ _ hP1
    have hF2 := Ext.upd (o := .lst []) hl _ _ hF1
    have hl2 : L2.upd H1 l (.lst []) l = some (.lst []) := upd_same
    have mu : lenAt P H1 = pool.length := by rw [lenAt_eq hP1, nVs_len]
    rw [mu]
    generalize L2.upd H1 l (.lst []) = H2 at x2 lo2 hP2 hF2 hl2
    refine ne_nil hP2 hl2 ⟨_, rfl, ?_⟩
    by_cases hp : pool = []
    · rw [decide_eq_false (by simpa using hp)]
      rw [hp, List.append_nil] at pm
      refine iteF ⟨_, rfl, F, _, rfl, SqL.of hF2, fun v ob hv hob => ?_⟩
      have lf : found.length = n := by rw [pm.length_eq, List.length_range]
      rw [lf] at lo2
      refine q _ found _ (x2.trans (Ext.upd hv).loom) (lo2.ext (Ext.upd hv)) ⟨v, ob, rfl, upd_same, hob⟩ ⟨lf, fun x hx => List.mem_range.mp (pm.mem_iff.mp hx), pm.nodup_iff.mpr List.nodup_range⟩
    · rw [decide_eq_true hp]
      have pos : 0 < pool.length := List.length_pos_iff.mpr hp
      refine iteT ⟨_, rfl, .inl ⟨rfl, _, SqL.of hF2⟩, _, rfl, .inl ⟨rfl, _, SqL.of hP2⟩, _, rfl, _, rfl, P, _, rfl, .inl (SqL.of hP2), a, b, c + found.length, pool.length, by rw [nVs_len] <;> rfl, lo2, by omega, by omega, by omega, fun r H3 hr x3 lo3 => ?_⟩
      have hP3 := x3 _ _ nP.1 nP.2 hP2
      have hF3 := x3 _ _ nF.1 nF.2 hF2
      obtain ⟨y, hy⟩ : ∃ y, pool[r]? = some y := ⟨_, List.getElem?_eq_getElem hr⟩
      refine ⟨P, _, (r : Int), r, nV y, rfl, rfl, hP3, by omega, by omega, seq_nat (by rw [nVs_len]; exact hr), by rw [List.getElem?_map, hy]; rfl, F, _, _, rfl, rfl, by rw [upd_ne (Ne.symm nPF)]; exact hF3, by rw [nVs_len, sizeLine_eq]; omega, ?_⟩
      have lp := List.length_eraseIdx_of_lt hr
      refine ⟨⟨pool.eraseIdx r, found ++ [y], rfl, ?_, ?_, ?_, ?_, ?_⟩, ?_⟩
      · exact ((x2.trans x3).put hP).put nF0
      · rw [List.length_append]
        exact ((lo3.put nP).put nF)
      · rw [upd_ne nPF, upd_same, erase_map]
      · rw [upd_same, nVs_app]; rfl
      · rw [List.append_assoc]
        exact ((erase_perm hy).append_left found).trans pm
      · rw [lenAt_eq (xs := nVs (pool.eraseIdx r)) (by rw [upd_ne nPF, upd_same, erase_map]), nVs_len]
        omega
end
end GG
/-! D9: the law's rows and words. -/
namespace GG
open PySem
open PySem.Spec
open PyProof.Rows
open L2
open RR
open StX

theorem valid_snoc {m : Nat} : ∀ {bs : List Bool} {a p : Nat} {b : Bool}, Valid m a p bs → (b = true → a + bs.count true < m) → (b = false → p + bs.count false < a + bs.count true) → Valid m a p (bs ++ [b])
  | [], a, p, true, _, h1, _ => ⟨by simpa using h1 rfl, trivial⟩
  | [], a, p, false, _, _, h2 => ⟨by simpa using h2 rfl, trivial⟩
  | true :: r, a, p, b, v, h1, h2 => ⟨v.1, valid_snoc v.2 (fun z => by
      have := h1 z
      rw [List.count_cons] at this; simp at this; omega) (fun z => by
      have := h2 z
      rw [List.count_cons, List.count_cons] at this; simp at this; omega)⟩
  | false :: r, a, p, b, v, h1, h2 => ⟨v.1, valid_snoc v.2 (fun z => by
      have := h1 z
      rw [List.count_cons] at this; simp at this; omega) (fun z => by
      have := h2 z
      rw [List.count_cons, List.count_cons] at this; simp at this; omega)⟩
theorem word_snoc (bs : List Bool) (b : Bool) : wordS bs ++ sgS b = wordS (bs ++ [b]) := by
  show (⟨(bs.map sgn).toArray ++ #[sgn b]⟩ : Str) = ⟨((bs ++ [b]).map sgn).toArray⟩
  rw [List.map_append]; simp
theorem word_len (bs : List Bool) : (wordS bs).length = bs.length := word_size bs
theorem count_tf (bs : List Bool) : bs.count true + bs.count false = bs.length := by
  induction bs with
  | nil => rfl
  | cons b r ih => cases b <;> simp [List.count_cons] <;> omega
section
variable {w : World} {K : PySem.W.Frag} {mg : Str → Option Value} {base : Heap}
/-! ### _law_row -/
def spRow : Sp := fun vs H Q _ => ∃ a b c n sz, vs = [.ref a, nV n, nV sz] ∧ Loom a b c H ∧ c + sz + 1 < 2 ^ 32 ∧ 1 ≤ n ∧ n < 2 ^ 29 ∧ 1 ≤ sz ∧ sz ≤ 300 ∧ ∀ v row H', ExtL a b H H' → Loom a b (c + sz + 1) H' → Tn H' v row → 1 ≤ row.length → row.length ≤ sz → (∀ x ∈ row, x < n) → Q v H'
theorem sc_row : FnScope ["_law_loom_here", "_law_many", "_law_size", "_law_k"] ["_law_loom_here", "_law_many", "_law_size"] (defScope (topSt 44)) := ⟨rfl, rfl, rfl, by decide +kernel, rfl, by decide +kernel, by decide +kernel⟩
theorem ok_row (m : Md K mg) : OkD w K mg base 2 (He.ga K "_law_row") m.d__law_row ["_law_loom_here", "_law_many", "_law_size"] spRow := by
  refine m.F__law_row.ok sc_row (fun vs H Q E h => ?_) (fun cdv A outer s H vs Q E hr h => ⟨_, PSs.nox (pss_one (ps_ret (pe_tupleOf (by rfl) m.n_tuple (pe_lc (own := [("_law_k", 3)]) (g := gName 3) (tt := tYes) (te := tCall spWeave [] E0 (tCons (tVar 0) (tCons (tVar 1) tNil))) rfl sc_row.nd (pi_range1 (by rfl) m.n_range (pa_cons (pe_op op_add pe_int (pe_call (ok_weave m) hr rfl m.g__law_weave m.F__law_weave.kp m.b__law_weave .nil pass0 (pa_cons (pv 0) (pa_cons (pv 2) pa_nil)))) pa_nil))
      (blkOk_by (own := [("_law_k", 3)]) (N := ["_law_loom_here", "_law_many", "_law_size", "_law_k"]) (sc := defScope (topSt 44)) (by decide +kernel)) (fun _ _ _ _ _ => pg_name (i := 3) sc_row.nd rfl (Or.inl rfl)) (fun _ _ _ _ _ => pts_nil)
      (fun _ _ _ _ _ => pe_call (ok_weave m) hr rfl m.g__law_weave m.F__law_weave.kp m.b__law_weave .nil pass0 (pa_cons (pv 0) (pa_cons (pv 1) pa_nil))))))), ?_⟩)
  · obtain ⟨a, b, c, n, sz, rfl, _⟩ := h; rfl
  · obtain ⟨a, b, c, n, sz, rfl, lo, hc, h1, h2, h3, h4, q⟩ := h
    refine ⟨_, rfl, _, rfl, a, b, c, sz, rfl, lo, by omega, h3, by omega, fun r H1 hr1 x1 lo1 => ?_⟩
    refine ⟨_, _, rfl, rfl, 1 + r, congrArg (fun z => [V.int z]) (by omega), by omega, by omega, fun D new => ?_⟩
    have nD := lo1.ne new
    refine lc_range (lo := 0) (n := 1 + r) (fun i H' => ExtL a b H1 H' ∧ Loom a b (c + 1 + i) H' ∧ ∃ row, H' D = some (.lst (nVs row)) ∧ row.length = i ∧ ∀ x ∈ row, x < n) ⟨(Ext.upd new).loom, lo1.ext (Ext.upd new), [], upd_same, rfl, fun x hx => by cases hx⟩ (fun i H2 hi p => ?_) fun H2 p => ?_
    · obtain ⟨x2, lo2, row, hD, lr, hrow⟩ := p
      refine ⟨wipe_one _ 3 _, yesT ⟨_, rfl, _, rfl, a, b, c + 1 + i, n, rfl, lo2, by omega, h1, h2, fun y H3 hy x3 lo3 => ?_⟩⟩
      have hD3 := x3 _ _ nD.1 nD.2 hD
      refine ⟨_, hD3, by rw [nVs_len, sizeLine_eq]; omega, (x2.trans x3).put new, lo3.put nD, row ++ [y], by rw [upd_same, nVs_app]; rfl, by rw [List.length_append, lr]; rfl, fun x hx => ?_⟩
      rcases List.mem_append.mp hx with hx | hx
      · exact hrow x hx
      · obtain rfl : x = y := by simpa using hx
        exact hy
    · obtain ⟨x2, lo2, row, hD, lr, hrow⟩ := p
      refine .inl ⟨D, _, rfl, SqL.of hD, fun t ht => ?_⟩
      exact q _ row _ ((x1.trans x2).trans (Ext.upd ht).loom) ((lo2.mono (by omega)).ext (Ext.upd ht)) ⟨t, rfl, .inl upd_same⟩ (by omega) (by omega) hrow
/-! ### _law_word -/
def spWord : Sp := fun vs H Q _ => ∃ a b c sz, vs = [.ref a, nV sz, .bl true] ∧ Loom a b c H ∧ c + 2 * sz + 1 < 2 ^ 32 ∧ sz ≤ 300 ∧ ∀ bs H', ExtL a b H H' → Loom a b (c + 2 * sz + 1) H' → Valid sz 0 0 bs → bs.count true = sz → bs.length = 2 * sz → Q (.str (wordS bs)) H'
theorem sc_word : FnScope ["_law_loom_here", "_law_size", "_law_to_end", "_law_found", "_law_come", "_law_done", "_law_style", "_law_chance"] ["_law_loom_here", "_law_size", "_law_to_end"] (defScope (topSt 45)) := ⟨rfl, rfl, rfl, by decide +kernel, rfl, by decide +kernel, by decide +kernel⟩
theorem ok_word (m : Md K mg) : OkD w K mg base 2 (He.ga K "_law_word") m.d__law_word ["_law_loom_here", "_law_size", "_law_to_end"] spWord := by
  refine m.F__law_word.ok sc_word (fun vs H Q E h => ?_) (fun cdv A outer s H vs Q E hr h => ⟨_, PSs.nox (pss_cons (ps_asg (pe_tup (pa_cons pe_str (pa_cons pe_int (pa_cons pe_int (pa_cons (pe_call (ok_weave m) hr rfl m.g__law_weave m.F__law_weave.kp m.b__law_weave .nil pass0 (pa_cons (pv 0) (pa_cons pe_int pa_nil))) pa_nil))))) (pg_tup rfl (pgs_cons (pg_name (i := 3) sc_word.nd rfl (Or.inl rfl)) (pgs_cons (pg_name (i := 4) sc_word.nd rfl (Or.inl rfl)) (pgs_cons (pg_name (i := 5) sc_word.nd rfl (Or.inl rfl)) (pgs_cons (pg_name (i := 6) sc_word.nd rfl (Or.inl rfl)) pgs_nil))))))
    (pss_cons (ps_while PassesOwn.never (pt_cmpR op_lt (pv 5) (pv 1) (nomark _))
      (pss_cons (ps_set (i := 7) sc_word.nd rfl (Or.inl rfl) (pe_ix ix_list (pe_lst (pa_cons pe_int (pa_cons pe_int (pa_cons pe_int (pa_cons pe_int pa_nil))))) (pv 6) (fun _ _ => rfl)))
        (pss_one (ps_if (PW.pt (pw_or (pt_cmpR op_eq (pv 5) (pv 4) (nomark _)) (pw_or1 (PW.pt (pw_and (pt_cmpR op_lt (pv 4) (pv 1) (nomark _)) (pw_and1 (pt_cmpR op_lt (pe_call (ok_weave m) hr rfl m.g__law_weave m.F__law_weave.kp m.b__law_weave .nil pass0 (pa_cons (pv 0) (pa_cons pe_int pa_nil))) (pv 7) (nomark _))))))))
          (pss_one (ps_par (i := 3) (j := 4) rfl sc_word.nd rfl rfl (by decide) rfl rfl (pa_cons (pe_op op_add_str (pv 3) pe_str) (pa_cons (pe_op op_add (pv 4) pe_int) pa_nil)) (by rfl)))
          (pss_one (ps_par (i := 3) (j := 5) rfl sc_word.nd rfl rfl (by decide) rfl rfl (pa_cons (pe_op op_add_str (pv 3) pe_str) (pa_cons (pe_op op_add (pv 5) pe_int) pa_nil)) (by rfl)))))))
    (pss_one (ps_ret (pe_ifExp (pt_val (pv 2)) (pv 3) (pe_slice sl_str (pv 3) po_none (po_some (pe_call (ok_weave m) hr rfl m.g__law_weave m.F__law_weave.kp m.b__law_weave .nil pass0 (pa_cons (pv 0) (pa_cons (pe_op op_add (pe_callB call_len_str (by rfl) m.n_len PySem.boot_len (pa_cons (pv 3) pa_nil)) pe_int) pa_nil)))))))))), ?_⟩)
  · obtain ⟨a, b, c, sz, rfl, _⟩ := h; rfl
  · obtain ⟨a, b, c, sz, rfl, lo, hc, hs, q⟩ := h
    refine ⟨_, rfl, a, b, c, 4, rfl, lo, by omega, by decide, by decide, fun st H1 hst x1 lo1 => ⟨by show 4 ≤ sizeLine; decide, fun t ht => ⟨t, _, rfl, SqT.of upd_same, rfl, _, _, rfl, _, _, rfl, _, _, rfl, _, _, rfl, rfl, ?_⟩⟩⟩
    have x2 := x1.trans (Ext.upd (o := .tup [V.str "", V.int 0, V.int 0, nV st]) ht).loom
    have lo2 := lo1.ext (Ext.upd (o := .tup [V.str "", V.int 0, V.int 0, nV st]) ht)
    generalize L2.upd H1 t (.tup [V.str "", V.int 0, V.int 0, nV st]) = H2 at x2 lo2
    have wa : ∀ bs, wordS bs ++ ("a" : Str) = wordS (bs ++ [true]) := fun bs => (congrArg (wordS bs ++ ·) (by decide : ("a" : Str) = sgS true)).trans (word_snoc bs true)
    have wp : ∀ bs, wordS bs ++ ("p" : Str) = wordS (bs ++ [false]) := fun bs => (congrArg (wordS bs ++ ·) (by decide : ("p" : Str) = sgS false)).trans (word_snoc bs false)
    refine ⟨fun mm σ' H' => ∃ (bs : List Bool) (x7 : Option V), mm = 2 * sz - bs.length ∧ σ' = [some (V.ref a), some (nV sz), some (V.bl true), some (V.str (wordS bs)), some (nV (bs.count true)), some (nV (bs.count false)), some (nV st), x7] ∧ ExtL a b H H' ∧ Loom a b (c + 1 + bs.length) H' ∧ bs.count false ≤ bs.count true ∧ bs.count true ≤ sz ∧ Valid sz 0 0 bs,
      ⟨_, [], _, rfl, rfl, x2, lo2, Nat.le_refl _, Nat.zero_le _, trivial⟩, fun mm σ' H' p => ?_⟩
    obtain ⟨bs, x7, rfl, rfl, x3, lo3, h1, h2, vl⟩ := p
    have tf := count_tf bs
    refine ⟨_, rfl, _, rfl, _, _, rfl, rfl, _, rfl, ?_⟩
    show if decide (((bs.count false : Nat) : Int) < (sz : Int)) = true then _ else _
    by_cases hlt : ((bs.count false : Nat) : Int) < (sz : Int)
    · rw [decide_eq_true hlt, if_pos rfl]
      refine ⟨fun σ' H' => ∃ m', m' < 2 * sz - bs.length ∧ ∃ (bs' : List Bool) (x7 : Option V), m' = 2 * sz - bs'.length ∧ σ' = [some (V.ref a), some (nV sz), some (V.bl true), some (V.str (wordS bs')), some (nV (bs'.count true)), some (nV (bs'.count false)), some (nV st), x7] ∧ ExtL a b H H' ∧ Loom a b (c + 1 + bs'.length) H' ∧ bs'.count false ≤ bs'.count true ∧ bs'.count true ≤ sz ∧ Valid sz 0 0 bs', fun _ _ h => h, ?_⟩
      obtain ⟨ch, hch⟩ : ∃ ch : Int, [V.int 3, V.int 1, V.int 6, V.int 4][st]? = some (V.int ch) := by
        match st, hst with
        | 0, _ => exact ⟨3, rfl⟩
        | 1, _ => exact ⟨1, rfl⟩
        | 2, _ => exact ⟨6, rfl⟩
        | 3, _ => exact ⟨4, rfl⟩
      refine ⟨by show 4 ≤ sizeLine; decide, fun l hl => ⟨_, rfl, l, _, (st : Int), V.int ch, rfl, rfl, SqL.of upd_same, atI_nat hch, ?_⟩⟩
      have x4 := x3.trans (Ext.upd (o := .lst [V.int 3, V.int 1, V.int 6, V.int 4]) hl).loom
      have lo4 := lo3.ext (Ext.upd (o := .lst [V.int 3, V.int 1, V.int 6, V.int 4]) hl)
      generalize L2.upd H' l (.lst [V.int 3, V.int 1, V.int 6, V.int 4]) = H4 at x4 lo4
      -- a car comes
      have arr : ∀ H5, ExtL a b H H5 → Loom a b (c + 1 + bs.length + 1) H5 → bs.count true < sz → ∃ m', m' < 2 * sz - bs.length ∧ ∃ (bs' : List Bool) (y7 : Option V), m' = 2 * sz - bs'.length ∧ [some (V.ref a), some (nV sz), some (V.bl true), some (V.str (wordS bs ++ ("a" : Str))), some (V.int (((bs.count true : Nat) : Int) + 1)), some (nV (bs.count false)), some (nV st), some (V.int ch)] = [some (V.ref a), some (nV sz), some (V.bl true), some (V.str (wordS bs')), some (nV (bs'.count true)), some (nV (bs'.count false)), some (nV st), y7] ∧ ExtL a b H H5 ∧ Loom a b (c + 1 + bs'.length) H5 ∧ bs'.count false ≤ bs'.count true ∧ bs'.count true ≤ sz ∧ Valid sz 0 0 bs' := fun H5 x5 lo5 ht => by
        have c1 : (bs ++ [true]).count true = bs.count true + 1 := by rw [List.count_append]; rfl
        have c2 : (bs ++ [true]).count false = bs.count false := by rw [List.count_append]; rfl
        have l1 : (bs ++ [true]).length = bs.length + 1 := by rw [List.length_append]; rfl
        refine ⟨_, ?_, bs ++ [true], some (V.int ch), rfl, ?_, x5, ?_, by omega, by omega, valid_snoc vl (fun _ => by omega) (fun z => by cases z)⟩
        · rw [l1]; omega
        · rw [wa, c1, c2]; rfl
        · rw [l1]; exact lo5
      have pas : ∀ H5, ExtL a b H H5 → Loom a b (c + 1 + bs.length + 1) H5 → bs.count false < bs.count true → ∃ m', m' < 2 * sz - bs.length ∧ ∃ (bs' : List Bool) (y7 : Option V), m' = 2 * sz - bs'.length ∧ [some (V.ref a), some (nV sz), some (V.bl true), some (V.str (wordS bs ++ ("p" : Str))), some (nV (bs.count true)), some (V.int (((bs.count false : Nat) : Int) + 1)), some (nV st), some (V.int ch)] = [some (V.ref a), some (nV sz), some (V.bl true), some (V.str (wordS bs')), some (nV (bs'.count true)), some (nV (bs'.count false)), some (nV st), y7] ∧ ExtL a b H H5 ∧ Loom a b (c + 1 + bs'.length) H5 ∧ bs'.count false ≤ bs'.count true ∧ bs'.count true ≤ sz ∧ Valid sz 0 0 bs' := fun H5 x5 lo5 ht => by
        have c1 : (bs ++ [false]).count true = bs.count true := by rw [List.count_append]; rfl
        have c2 : (bs ++ [false]).count false = bs.count false + 1 := by rw [List.count_append]; rfl
        have l1 : (bs ++ [false]).length = bs.length + 1 := by rw [List.length_append]; rfl
        refine ⟨_, ?_, bs ++ [false], some (V.int ch), rfl, ?_, x5, ?_, by omega, by omega, valid_snoc vl (fun z => by cases z) (fun _ => by omega)⟩
        · rw [l1]; omega
        · rw [wp, c1, c2]; rfl
        · rw [l1]; exact lo5
      have wl : (wordS bs).length + 1 ≤ sizeLine := by rw [word_len, sizeLine_eq]; omega
      refine ⟨_, rfl, _, rfl, rfl, _, rfl, ?_⟩
      show if decide (nV (bs.count false) = nV (bs.count true)) = true then _ else _
      by_cases he : bs.count false = bs.count true
      · rw [decide_eq_true (by rw [he])]
        exact iteT (iteT ⟨_, rfl, _, _, rfl, rfl, wl, _, rfl, _, _, rfl, rfl, _, _, rfl, arr _ x4 (lo4.mono (by omega)) (by omega)⟩)
      · rw [decide_eq_false (fun z => he (by injection z with z; omega))]
        refine iteF ⟨_, rfl, _, rfl, _, _, rfl, rfl, _, rfl, ?_⟩
        show if decide (((bs.count true : Nat) : Int) < (sz : Int)) = true then _ else _
        by_cases hr2 : ((bs.count true : Nat) : Int) < (sz : Int)
        · rw [decide_eq_true hr2]
          refine iteT ⟨_, rfl, a, b, _, 7, rfl, lo4, by omega, by decide, by decide, fun r H5 hr5 x5 lo5 => ⟨_, rfl, _, _, rfl, rfl, _, rfl, ?_⟩⟩
          show if decide ((r : Int) < ch) = true then _ else _
          by_cases hc5 : (r : Int) < ch
          · rw [decide_eq_true hc5]
            exact iteT ⟨_, rfl, _, _, rfl, rfl, wl, _, rfl, _, _, rfl, rfl, _, _, rfl, arr _ (x4.trans x5) lo5 (by omega)⟩
          · rw [decide_eq_false hc5]
            exact iteF ⟨_, rfl, _, _, rfl, rfl, wl, _, rfl, _, _, rfl, rfl, _, _, rfl, pas _ (x4.trans x5) lo5 (by omega)⟩
        · rw [decide_eq_false hr2]
          exact iteF (iteF ⟨_, rfl, _, _, rfl, rfl, wl, _, rfl, _, _, rfl, rfl, _, _, rfl, pas _ x4 (lo4.mono (by omega)) (by omega)⟩)
    · rw [decide_eq_false hlt, if_neg Bool.false_ne_true]
      refine ⟨_, rfl, true, rfl, ?_⟩
      exact iteT ⟨_, rfl, q bs _ x3 (lo3.mono (by omega)) vl (by omega) (by omega)⟩
end
end GG
/-! D10: the law's rules. -/
namespace GG
open PySem
open PySem.Spec
open PyProof.Rows
open L2
open RR
open StX

section
variable {X : Cx}
/-- a block with what holds behind its first statement -/
def tCut (t u : TS) : TS := fun D σ H => ∃ M : L2.St → Hp → Prop, t { D with nx := M } σ H ∧ ∀ σ' H', M σ' H' → u D σ' H'
theorem pss_cut {st : Stmt} {rest : List Stmt} {t u : TS} (h1 : PS X st t) (h2 : PSs X rest u) : PSs X (st :: rest) (tCut t u) := by
  refine ⟨fun pins s σ H D I h => ?_⟩
  obtain ⟨M, h, k⟩ := h
  refine wpAny_execs_cons (thn (h1.run pins s σ H { D with nx := M } I h) fun f s1 q => ?_)
  cases f with
  | next =>
    obtain ⟨σ', H', I', q⟩ := q
    exact h2.run pins s1 σ' H' D I' (k _ _ q)
  | ret v => exact q
  | brk => exact q
  | cont => exact q
end
theorem mem_set {α : Type} {l : List α} {i : Nat} {x y : α} (h : y ∈ l.set i x) : y ∈ l ∨ y = x := by
  rcases List.mem_or_eq_of_mem_set h with h | h
  · exact .inl h
  · exact .inr h
theorem paired_set {α β : Type} {F : α → β → Prop} {x : α} {y : β} (hf : F x y) : ∀ {l : List α} {m : List β} (i : Nat), Paired F l m → Paired F (l.set i x) (m.set i y)
  | _, _, _, .nil => .nil
  | _, _, 0, .cons a b => .cons hf b
  | _, _, i + 1, .cons a b => .cons a (paired_set hf i b)
theorem ExtL.none {a b p : Addr} {H H' : Hp} (e : ExtL a b H H') (h : H' p = Option.none) (n : p ≠ a ∧ p ≠ b) : H p = Option.none := by
  cases hp : H p with
  | none => rfl
  | some o => rw [e p o n.1 n.2 hp] at h; cases h
theorem ExtL.tns {a b : Addr} {H H' : Hp} {c : Nat} {vs : List V} {R : List (List Nat)} (e : ExtL a b H H') (l : Loom a b c H) (t : Tns H vs R) : Tns H' vs R := tns_extT t (e.tup l)
/-- the rule's list while it is made -/
def RuleAt (L : Addr) (n : Nat) (H : Hp) : Prop := ∃ vs R, H L = some (.lst vs) ∧ Tns H vs R ∧ Good n R
/-- the turns from behind q -/
def turnAt (n q : Nat) : List Nat := (List.range (n - (q + 1))).map (fun i => q + 1 + i) ++ List.range (q + 1)
theorem turn_vs {n q : Nat} (h : q < n) : rgV ((q + 1 : Nat) : Int) (n : Int) ++ rgV 0 ((q + 1 : Nat) : Int) = nVs (turnAt n q) := by
  unfold turnAt
  rw [rg_nat, nVs_app]
  congr 1
  unfold rgV
  show _ = List.map nV (List.map _ _)
  rw [List.map_map]
  have e : ((n : Int) - ((q + 1 : Nat) : Int)).toNat = n - (q + 1) := by omega
  rw [e]
  refine List.map_congr_left fun i _ => ?_
  show V.int _ = V.int _
  congr 1
theorem turn_prm {n q : Nat} (h : q < n) : Prm (turnAt n q) n := by
  refine ⟨?_, fun x hx => ?_, ?_⟩
  · simp only [turnAt, List.length_append, List.length_map, List.length_range]; omega
  · rcases List.mem_append.mp hx with hx | hx
    · obtain ⟨i, hi, rfl⟩ := List.mem_map.mp hx
      have := List.mem_range.mp hi
      omega
    · have := List.mem_range.mp hx
      omega
  · refine List.nodup_append.mpr ⟨?_, List.nodup_range, fun x hx y hy => ?_⟩
    · exact List.Pairwise.map _ (fun a b h => by omega) List.nodup_range
    · obtain ⟨i, hi, rfl⟩ := List.mem_map.mp hx
      have := List.mem_range.mp hy
      omega
section
variable {w : World} {K : PySem.W.Frag} {mg : Str → Option Value} {base : Heap}
def spRule : Sp := fun vs H Q _ => ∃ a b c top, vs = [.ref a, nV top] ∧ Loom a b c H ∧ c + 100 < 2 ^ 32 ∧ 1 ≤ top ∧ top ≤ 6 ∧ ∀ v n R H', ExtL a b H H' → Loom a b (c + 100) H' → Tt H' v R → Good n R → n ≤ top → Q v H'
theorem sc_rule : FnScope ["_law_loom_here", "_law_top", "_law_many", "_law_way", "_law_lanes", "_law_rule_here", "_law_q", "_law_one", "_law_k"] ["_law_loom_here", "_law_top"] (defScope (topSt 43)) := ⟨rfl, rfl, rfl, by decide +kernel, rfl, by decide +kernel, by decide +kernel⟩
theorem ok_rule (m : Md K mg) : OkD w K mg base 3 (He.ga K "_law_rule") m.d__law_rule ["_law_loom_here", "_law_top"] spRule := by
  refine m.F__law_rule.ok sc_rule (fun vs H Q E h => ?_) (fun cdv A outer s H vs Q E hr h => ⟨_, PSs.nox (pss_cons (ps_asg (pe_tup (pa_cons (pe_op op_add pe_int (pe_call (ok_weave m) (hr.mono (by decide)) rfl m.g__law_weave m.F__law_weave.kp m.b__law_weave .nil pass0 (pa_cons (pv 0) (pa_cons (pv 1) pa_nil)))) (pa_cons (pe_call (ok_weave m) (hr.mono (by decide)) rfl m.g__law_weave m.F__law_weave.kp m.b__law_weave .nil pass0 (pa_cons (pv 0) (pa_cons pe_int pa_nil))) pa_nil))) (pg_tup rfl (pgs_cons (pg_name (i := 2) sc_rule.nd rfl (Or.inr rfl)) (pgs_cons (pg_name (i := 3) sc_rule.nd rfl (Or.inl rfl)) pgs_nil))))
    (pss_cons (ps_set (i := 4) sc_rule.nd rfl (Or.inr rfl) (pe_call (ok_mixed m) hr rfl m.g__law_mixed m.F__law_mixed.kp m.b__law_mixed .nil pass0 (pa_cons (pv 0) (pa_cons (pv 2) pa_nil))))
    (pss_cut (ps_set (i := 5) sc_rule.nd rfl (Or.inl rfl) (pe_op op_cat (pe_lst (pa_cons (pv 4) pa_nil)) (pe_lc (own := [("_law_q", 6)]) (g := gName 6) (tt := tYes) (te := tOp (rCatF K) (tThen (tLc (iTup K _) _ _ _ _) (kTupF K)) (tTupF _)) rfl sc_rule.nd (pi_range1 (by rfl) m.n_range (pa_cons (pv 2) pa_nil))
        (blkOk_by (own := [("_law_q", 6)]) (N := ["_law_loom_here", "_law_top", "_law_many", "_law_way", "_law_lanes", "_law_rule_here", "_law_q", "_law_one", "_law_k"]) (sc := defScope (topSt 43)) (by decide +kernel)) (fun _ _ _ _ _ => pg_name (i := 6) sc_rule.nd rfl (Or.inr rfl)) (fun _ _ _ _ _ => pts_nil)
        (fun _ _ _ _ _ => pe_op op_catF (pe_tupleOfF (by rfl) m.n_tuple (pe_lc (own := [("_law_one", 7)]) (g := gName 7) rfl sc_rule.nd (pi_tup (pv 4)) (blkOk_by (by rfl)) (fun _ _ _ _ _ => pg_name (i := 7) sc_rule.nd rfl (Or.inl rfl))
            (fun _ _ _ _ _ => pts_one (pt_cmpR op_ne (pv 7) (pv 6) (nomark _))) (fun _ _ _ _ _ => pv 7))) (pe_tupF (pa_cons (pv 6) pa_nil))))))
    (pss_cut (ps_if (pt_cmpR op_eq (pv 3) pe_int (nomark _)) (pss_one (ps_setLc (i := 5) (own := [("_law_k", 8)]) (g := gName 8) (tt := tYes) (te := tCall spMixed [] E0 (tCons (tVar 0) (tCons (tVar 2) tNil))) rfl sc_rule.nd rfl rfl (sw_true rfl rfl rfl (by decide +kernel)) (pi_range1 (by rfl) m.n_range (pa_cons (pe_op op_add (pv 2) pe_int) pa_nil))
        (blkOk_by (own := [("_law_k", 8)]) (N := ["_law_loom_here", "_law_top", "_law_many", "_law_way", "_law_lanes", "_law_rule_here", "_law_q", "_law_one", "_law_k"]) (sc := defScope (topSt 43)) (by decide +kernel)) (fun _ _ _ _ _ => pg_name (i := 8) sc_rule.nd rfl (Or.inl rfl)) (fun _ _ _ _ _ => pts_nil)
        (fun _ _ _ _ _ => pe_call (ok_mixed m) hr rfl m.g__law_mixed m.F__law_mixed.kp m.b__law_mixed .nil pass0 (pa_cons (pv 0) (pa_cons (pv 2) pa_nil))))) pss_nil)
    (pss_cut (ps_if (pt_cmpR op_eq (pv 3) pe_int (nomark _)) (pss_one (ps_set (i := 5) sc_rule.nd rfl (Or.inl rfl) (pe_op op_cat (pe_lst (pa_cons (pv 4) pa_nil)) (pe_lc (own := [("_law_q", 6)]) (g := gName 6) (tt := tYes) (te := tThen (tOp rCat (tLstRg _) (tLstRg _)) (kTupF K)) rfl sc_rule.nd (pi_range1 (by rfl) m.n_range (pa_cons (pv 2) pa_nil))
        (blkOk_by (own := [("_law_q", 6)]) (N := ["_law_loom_here", "_law_top", "_law_many", "_law_way", "_law_lanes", "_law_rule_here", "_law_q", "_law_one", "_law_k"]) (sc := defScope (topSt 43)) (by decide +kernel)) (fun _ _ _ _ _ => pg_name (i := 6) sc_rule.nd rfl (Or.inl rfl)) (fun _ _ _ _ _ => pts_nil)
        (fun _ _ _ _ _ => pe_tupleOfF (by rfl) m.n_tuple (pe_op op_cat (pe_listRg rfl (by rfl) m.n_list (prg_2 (by rfl) m.n_range (pe_op op_add (pv 6) pe_int) (pv 2))) (pe_listRg rfl (by rfl) m.n_list (prg_1 (by rfl) m.n_range (pe_op op_add (pv 6) pe_int))))))))) pss_nil)
    (pss_cut (ps_if (pt_cmpR op_eq (pv 3) pe_int (nomark _)) (pss_one (ps_set (i := 5) sc_rule.nd rfl (Or.inl rfl) (pe_op op_rep (pe_lst (pa_cons (pv 4) pa_nil)) (pe_op op_add (pv 2) pe_int)))) pss_nil)
    (pss_cut (ps_if (pt_cmpR op_gt (pv 3) pe_int (nomark _)) (pss_one (ps_asg (pe_call (ok_mixed m) hr rfl m.g__law_mixed m.F__law_mixed.kp m.b__law_mixed .nil pass0 (pa_cons (pv 0) (pa_cons (pv 2) pa_nil))) (pg_sub (pv 5) (pe_call (ok_weave m) (hr.mono (by decide)) rfl m.g__law_weave m.F__law_weave.kp m.b__law_weave .nil pass0 (pa_cons (pv 0) (pa_cons (pe_op op_add (pv 2) pe_int) pa_nil))) set_list))) pss_nil)
    (pss_one (ps_ret (pe_tupleOf (by rfl) m.n_tuple (pv 5))))))))))), ?_⟩)
  · obtain ⟨a, b, c, top, rfl, _⟩ := h; rfl
  · obtain ⟨a, b, c, top, rfl, lo, hc, h1, h6, q⟩ := h
    refine ⟨_, rfl, _, rfl, a, b, c, top, rfl, lo, by omega, h1, by omega, fun r Ha hr1 xa loa => ⟨_, _, rfl, rfl, _, rfl, a, b, c + 1, 5, rfl, loa, by omega, by decide, by decide, fun wy Hb hwy xb lob => ⟨by show 2 ≤ sizeLine; decide, fun t ht => ⟨t, _, rfl, SqT.of upd_same, rfl, _, _, rfl, _, _, rfl, rfl, ?_⟩⟩⟩⟩
    have eN : (1 : Int) + (r : Int) = ((1 + r : Nat) : Int) := by omega
    obtain ⟨n, hn⟩ : ∃ n, 1 + r = n := ⟨_, rfl⟩
    rw [hn] at eN
    dsimp only
    rw [eN]
    have n1 : 1 ≤ n := by omega
    have n6 : n ≤ 6 := by omega
    have ntop : n ≤ top := by omega
    clear eN
    have x0 := (xa.trans xb).trans (Ext.upd (o := .tup [nV n, nV wy]) ht).loom
    have lo0 := lob.ext (Ext.upd (o := .tup [nV n, nV wy]) ht)
    generalize L2.upd Hb t (.tup [nV n, nV wy]) = H0 at x0 lo0
    refine ⟨_, rfl, _, rfl, a, b, _, n, rfl, lo0, by omega, by omega, fun v0 l0 H1 x1 lo1 pf1 pr0 => ?_⟩
    have x1 := x0.trans x1
    have lo1 := lo1.mono (show c + 1 + 1 + n ≤ c + 8 by omega)
    obtain ⟨b0, ob0, rfl, hb0, hob0⟩ := pf1
    have gd : ∀ R, R.length = n + 1 → (∀ p ∈ R, Prm p n) → Good n R := fun R h1 h2 => ⟨n1, n6, h1, h2⟩
    have qprm : ∀ q, q < n → Prm (l0.filter (fun x => x != q) ++ [q]) n := fun q hq => by
      have hm := prm_mem pr0 hq
      have fl := filter_len pr0.2.2 hm
      refine ⟨by rw [List.length_append]; have := pr0.1; simp only [List.length_cons, List.length_nil]; omega, fun x hx => ?_, List.nodup_append.mpr ⟨pr0.2.2.filter _, List.nodup_cons.mpr ⟨by simp, List.nodup_nil⟩, fun x hx y hy => ?_⟩⟩
      · rcases List.mem_append.mp hx with hx | hx
        · exact pr0.2.1 x (List.mem_filter.mp hx).1
        · obtain rfl : x = q := by simpa using hx
          exact hq
      · obtain rfl : y = q := by simpa using hy
        have := (List.mem_filter.mp hx).2
        simpa using this
    refine ⟨fun σ' H' => ∃ L x6 x7 x8, σ' = [some (V.ref a), some (nV top), some (nV n), some (nV wy), some (V.ref b0), some (V.ref L), x6, x7, x8] ∧ ExtL a b H H' ∧ Loom a b (c + 8) H' ∧ Pf H' (.ref b0) l0 ∧ (L ≠ a ∧ L ≠ b) ∧ H L = Option.none ∧ RuleAt L n H', ?_, ?_⟩
    · refine ⟨_, rfl, by show 1 ≤ sizeLine; decide, fun l hl => ⟨_, rfl, n, rfl, by omega, by omega, fun D new => ?_⟩⟩
      have e2 : Ext H1 (L2.upd H1 l (.lst [V.ref b0])) := Ext.upd hl
      have hl2 : L2.upd H1 l (.lst [V.ref b0]) l = some (.lst [V.ref b0]) := upd_same
      generalize L2.upd H1 l (.lst [V.ref b0]) = H2 at e2 hl2 new
      have hb2 := e2 _ _ hb0
      refine lc_range (lo := 0) (n := n) (LcP H2 D fun i acc H => Tns H acc ((List.range i).map fun q => l0.filter (fun x => x != q) ++ [q])) (LcP.start new .nil) (fun i H3 hi p => ?_) fun H3 p => ?_
      · obtain ⟨e3, acc, hD, hacc, hp⟩ := p
        refine ⟨wipe_one _ 6 _, yesT ?_⟩
        have hb3 := e3 _ _ hb2
        have fin : ∀ (v : V) (H5 : Hp), Ext H3 H5 → Pf H5 v (l0.filter (fun x => x != i) ++ [i]) → ∃ acc', H5 D = some (.lst acc') ∧ acc'.length < sizeLine ∧ LcP H2 D (fun i acc H => Tns H acc ((List.range i).map fun q => l0.filter (fun x => x != q) ++ [q])) (i + 1) (L2.upd H5 D (.lst (acc' ++ [v]))) := fun v H5 ee pf5 => by
          refine LcP.put new e3 hD hacc (by omega) ee ?_
          rw [List.range_succ, List.map_append]
          have e6 : ExtT H3 (L2.upd H5 D (.lst (acc ++ [v]))) := ee.tup.put (ee _ _ hD)
          have e7 : ExtT H5 (L2.upd H5 D (.lst (acc ++ [v]))) := Ext.rfl.tup.put (ee _ _ hD)
          exact paired_app (tns_extT hp e6) (.cons (pf5.extT e7) .nil)
        dsimp only [tOp, tThen]
        refine lc_filter (fun x => x != i) (by show 7 < 9; decide) (by rw [pr0.1]; omega) (.inr ⟨ob0, hb3⟩) (fun R r => ⟨_, rfl, r⟩) (fun x _ H' Q' e q' => ⟨_, rfl, _, rfl, rfl, _, rfl, ?_⟩) fun D2 H4 new2 e4 hD2 => ?_
        · have ee : (!decide (nV x = V.int (0 + (i : Nat)))) = (x != i) := by
            rw [Int.zero_add]
            by_cases hxi : x = i
            · subst hxi; simp
            · have h2 : ¬ (nV x = nV i) := fun z => hxi (by injection z with z; omega)
              rw [decide_eq_false h2]; simp [hxi]
          rw [ee]; exact q'
        · refine ⟨D2, _, rfl, SqL.of hD2, fun t1 o1 ht1 ho1 => ⟨_, rfl, by show 1 ≤ sizeLine; decide, fun t2 o2 ht2 ho2 => ?_⟩⟩
          have h12 := Ext.upd (o := .frz o2 (.tup [V.int (0 + (i : Nat))])) ht2 t1 _ upd_same
          have e5 : Ext H3 (L2.upd (L2.upd H4 t1 (.frz o1 (.tup (nVs (l0.filter fun x => x != i))))) t2 (.frz o2 (.tup [V.int (0 + (i : Nat))]))) := (e4.put ht1).put ht2
          refine ⟨t1, t2, _, _, rfl, rfl, .inl (.inr ⟨o1, h12⟩), .inl (.inr ⟨o2, upd_same⟩), ?_, fun z => fin _ _ e5 ⟨t2, o2, rfl, ?_, ho2⟩, fun _ z => (by cases z), fun _ _ t3 o3 ht3 ho3 => fin _ _ (e5.put ht3) ⟨t3, o3, rfl, ?_, ho3⟩⟩
          · have := List.length_filter_le (fun x => x != i) l0
            have l0n := pr0.1
            rw [nVs_len, sizeLine_eq]
            simp only [List.length_cons, List.length_nil]
            omega
          · have z2 : l0.filter (fun x => x != i) = [] := List.map_eq_nil_iff.mp z
            rw [upd_same, z2, Int.zero_add]; rfl
          · rw [upd_same, nVs_app, Int.zero_add]; rfl
      · obtain ⟨e3, acc, hD, hacc, hp⟩ := p
        have lp := paired_len hp
        rw [List.length_map, List.length_range] at lp
        refine ⟨l, D, _, _, rfl, rfl, e3 _ _ hl2, hD, by rw [sizeLine_eq, lp]; simp only [List.length_cons, List.length_nil]; omega, fun L hL => ?_⟩
        have e4 := (e2.trans e3).put (o := .lst ([V.ref b0] ++ acc)) hL
        refine ⟨L, _, _, _, rfl, x1.trans e4.loom, lo1.ext e4, ⟨b0, ob0, rfl, e4 _ _ hb0, hob0⟩, (lo1.ext (e2.trans e3)).ne hL, (x1.trans (e2.trans e3).loom).none hL ((lo1.ext (e2.trans e3)).ne hL), _, l0 :: (List.range n).map (fun q => l0.filter (fun x => x != q) ++ [q]), upd_same, .cons ⟨b0, ob0, rfl, e4 _ _ hb0, hob0⟩ (tns_ext hp (Ext.upd hL)), gd _ (by rw [List.length_cons, List.length_map, List.length_range]) fun p hp => ?_⟩
        rcases List.mem_cons.mp hp with rfl | hp
        · exact pr0
        · obtain ⟨q, hq, rfl⟩ := List.mem_map.mp hp
          exact qprm q (List.mem_range.mp hq)
    · rintro σ' H' ⟨L, x6, x7, x8, rfl, x2, lo2, pf2, nL, zL, ru2⟩
      clear x1 lo1 hb0 x0 lo0
      refine ⟨fun σ' H' => ∃ L x6 x7 x8, σ' = [some (V.ref a), some (nV top), some (nV n), some (nV wy), some (V.ref b0), some (V.ref L), x6, x7, x8] ∧ ExtL a b H H' ∧ Loom a b (c + 60) H' ∧ Pf H' (.ref b0) l0 ∧ (L ≠ a ∧ L ≠ b) ∧ H L = Option.none ∧ RuleAt L n H', ?_, ?_⟩
      · refine ⟨_, rfl, rfl, _, rfl, ?_⟩
        show if decide (nV wy = V.int 0) = true then _ else _
        by_cases hw : nV wy = V.int 0
        · rw [decide_eq_true hw]
          refine iteT ⟨_, rfl, _, _, rfl, rfl, n + 1, congrArg (fun z => [V.int z]) (by omega), by omega, by omega, fun D new => ?_⟩
          have nD := lo2.ne new
          have x3 := (Ext.upd (o := .lst []) new).loom (a := a) (b := b)
          refine lc_range (lo := 0) (n := n + 1) (fun i H2 => ExtL a b H' H2 ∧ Loom a b (c + 8 + 6 * i) H2 ∧ ∃ acc R, H2 D = some (.lst acc) ∧ Tns H2 acc R ∧ R.length = i ∧ ∀ p ∈ R, Prm p n) ⟨x3, lo2.ext (Ext.upd new), [], [], upd_same, .nil, rfl, fun p hp => by cases hp⟩ (fun i H2 hi p => ?_) fun H2 p => ?_
          · obtain ⟨x4, lo4, acc, R, hD, tR, lR, pR⟩ := p
            have la := paired_len tR
            refine ⟨wipe_one _ 8 _, yesT ⟨_, rfl, _, rfl, a, b, _, n, rfl, lo4, by omega, by omega, fun v l H5 x5 lo5 pf5 pr5 => ?_⟩⟩
            have hD5 := x5 _ _ nD.1 nD.2 hD
            have e7 : ExtT H5 (L2.upd H5 D (.lst (acc ++ [v]))) := Ext.rfl.tup.put hD5
            refine ⟨_, hD5, by rw [sizeLine_eq]; omega, (x4.trans x5).put new, (lo5.mono (by omega)).put nD, acc ++ [v], R ++ [l], upd_same, paired_app (tns_extT (x5.tns lo4 tR) e7) (.cons (pf5.extT e7) .nil), by rw [List.length_append, lR]; rfl, fun p hp => ?_⟩
            rcases List.mem_append.mp hp with hp | hp
            · exact pR p hp
            · obtain rfl : p = l := by simpa using hp
              exact pr5
          · obtain ⟨x4, lo4, acc, R, hD, tR, lR, pR⟩ := p
            exact ⟨D, _, _, _, rfl, x2.trans x4, lo4.mono (by omega), pf2.extT (x4.tup lo2), nD, x2.none new nD, acc, R, hD, tR, gd R lR pR⟩
        · rw [decide_eq_false hw]
          exact iteF ⟨L, _, _, _, rfl, x2, lo2.mono (by omega), pf2, nL, zL, ru2⟩
      clear x2 lo2 pf2 nL zL ru2 x6 x7 x8
      rintro σ' H' ⟨L, x6, x7, x8, rfl, x2, lo2, pf2, nL, zL, ru2⟩
      refine ⟨fun σ' H' => ∃ L x6 x7 x8, σ' = [some (V.ref a), some (nV top), some (nV n), some (nV wy), some (V.ref b0), some (V.ref L), x6, x7, x8] ∧ ExtL a b H H' ∧ Loom a b (c + 60) H' ∧ Pf H' (.ref b0) l0 ∧ (L ≠ a ∧ L ≠ b) ∧ H L = Option.none ∧ RuleAt L n H', ?_, ?_⟩
      · refine ⟨_, rfl, rfl, _, rfl, ?_⟩
        show if decide (nV wy = V.int 1) = true then _ else _
        by_cases hw : nV wy = V.int 1
        · rw [decide_eq_true hw]
          refine iteT ⟨_, rfl, by show 1 ≤ sizeLine; decide, fun l hl => ⟨_, rfl, n, rfl, by omega, by omega, fun D new => ?_⟩⟩
          have e2 : Ext H' (L2.upd H' l (.lst [V.ref b0])) := Ext.upd hl
          have hl2 : L2.upd H' l (.lst [V.ref b0]) l = some (.lst [V.ref b0]) := upd_same
          generalize L2.upd H' l (.lst [V.ref b0]) = H2 at e2 hl2 new
          refine lc_range (lo := 0) (n := n) (LcP H2 D fun i acc H => Tns H acc ((List.range i).map (turnAt n))) (LcP.start new .nil) (fun i H3 hi p => ?_) fun H3 p => ?_
          · obtain ⟨e3, acc, hD, hacc, hp⟩ := p
            have ci : (0 : Int) + (i : Int) + 1 = ((i + 1 : Nat) : Int) := by omega
            refine ⟨wipe_one _ 6 _, yesT ⟨_, rfl, _, _, rfl, rfl, _, rfl, ((i + 1 : Nat) : Int), _, congrArg V.int ci, rfl, RgOk.of_le (by omega) (by omega) (by omega) (by omega), fun l1 hl1 => ⟨_, rfl, _, _, rfl, rfl, ((i + 1 : Nat) : Int), congrArg V.int ci, RgOk.of_le (by omega) (by omega) (by omega) (by omega), fun l2 hl2 => ?_⟩⟩⟩
            have g1 := Ext.upd (o := .lst (rgV 0 ((i + 1 : Nat) : Int))) hl2 l1 _ upd_same
            have e5 : Ext H3 (L2.upd (L2.upd H3 l1 (.lst (rgV ((i + 1 : Nat) : Int) (n : Int)))) l2 (.lst (rgV 0 ((i + 1 : Nat) : Int)))) := (Ext.upd hl1).put hl2
            have g2 : L2.upd (L2.upd H3 l1 (.lst (rgV ((i + 1 : Nat) : Int) (n : Int)))) l2 (.lst (rgV 0 ((i + 1 : Nat) : Int))) l2 = some (.lst (rgV 0 ((i + 1 : Nat) : Int))) := upd_same
            generalize L2.upd (L2.upd H3 l1 (.lst (rgV ((i + 1 : Nat) : Int) (n : Int)))) l2 (.lst (rgV 0 ((i + 1 : Nat) : Int))) = H4 at g1 g2 e5
            have tv := turn_vs (n := n) hi
            refine ⟨l1, l2, _, _, rfl, rfl, g1, g2, by rw [← List.length_append, tv, nVs_len, (turn_prm hi).1, sizeLine_eq]; omega, fun l3 hl3 => ⟨l3, _, rfl, SqL.of upd_same, fun t ot ht hot => ?_⟩⟩
            have ee := (e5.put (o := .lst (rgV ((i + 1 : Nat) : Int) (n : Int) ++ rgV 0 ((i + 1 : Nat) : Int))) hl3).put (o := .frz ot (.tup (rgV ((i + 1 : Nat) : Int) (n : Int) ++ rgV 0 ((i + 1 : Nat) : Int)))) ht
            have pf5 : Pf (L2.upd (L2.upd H4 l3 (.lst (rgV ((i + 1 : Nat) : Int) (n : Int) ++ rgV 0 ((i + 1 : Nat) : Int)))) t (.frz ot (.tup (rgV ((i + 1 : Nat) : Int) (n : Int) ++ rgV 0 ((i + 1 : Nat) : Int))))) (.ref t) (turnAt n i) := ⟨t, ot, rfl, by rw [upd_same, tv], hot⟩
            refine LcP.put new e3 hD hacc (by omega) ee ?_
            rw [List.range_succ, List.map_append]
            have e6 := ee.tup.put (o := .lst (acc ++ [V.ref t])) (ee _ _ hD)
            exact paired_app (tns_extT hp e6) (.cons (pf5.extT (Ext.rfl.tup.put (ee _ _ hD))) .nil)
          · obtain ⟨e3, acc, hD, hacc, hp⟩ := p
            have lp := paired_len hp
            rw [List.length_map, List.length_range] at lp
            refine ⟨l, D, _, _, rfl, rfl, e3 _ _ hl2, hD, by rw [sizeLine_eq, lp]; simp only [List.length_cons, List.length_nil]; omega, fun L hL => ?_⟩
            have e4 := (e2.trans e3).put (o := .lst ([V.ref b0] ++ acc)) hL
            refine ⟨L, _, _, _, rfl, x2.trans e4.loom, lo2.ext e4, pf2.ext e4, (lo2.ext (e2.trans e3)).ne hL, (x2.trans (e2.trans e3).loom).none hL ((lo2.ext (e2.trans e3)).ne hL), _, l0 :: (List.range n).map (turnAt n), upd_same, .cons (pf2.ext e4) (tns_ext hp (Ext.upd hL)), gd _ (by rw [List.length_cons, List.length_map, List.length_range]) fun p hp => ?_⟩
            rcases List.mem_cons.mp hp with rfl | hp
            · exact pr0
            · obtain ⟨q, hq, rfl⟩ := List.mem_map.mp hp
              exact turn_prm (List.mem_range.mp hq)
        · rw [decide_eq_false hw]
          exact iteF ⟨L, _, _, _, rfl, x2, lo2, pf2, nL, zL, ru2⟩
      clear x2 lo2 pf2 nL zL ru2 x6 x7 x8
      rintro σ' H' ⟨L, x6, x7, x8, rfl, x2, lo2, pf2, nL, zL, ru2⟩
      refine ⟨fun σ' H' => ∃ L x6 x7 x8, σ' = [some (V.ref a), some (nV top), some (nV n), some (nV wy), some (V.ref b0), some (V.ref L), x6, x7, x8] ∧ ExtL a b H H' ∧ Loom a b (c + 60) H' ∧ Pf H' (.ref b0) l0 ∧ (L ≠ a ∧ L ≠ b) ∧ H L = Option.none ∧ RuleAt L n H', ?_, ?_⟩
      · refine ⟨_, rfl, rfl, _, rfl, ?_⟩
        show if decide (nV wy = V.int 2) = true then _ else _
        by_cases hw : nV wy = V.int 2
        · rw [decide_eq_true hw]
          refine iteT ⟨_, rfl, by show 1 ≤ sizeLine; decide, fun l hl => ⟨_, rfl, _, _, rfl, rfl, l, _, _, rfl, rfl, upd_same, by omega, by omega, by rw [sizeLine_eq]; show 1 * _ ≤ _; omega, fun D new => ?_⟩⟩
          have ec : ((n : Int) + 1).toNat = n + 1 := by omega
          have e1 := Ext.upd (o := .lst [V.ref b0]) hl
          have e2 := e1.put (o := .lst (List.replicate ((n : Int) + 1).toNat [V.ref b0]).flatten) new
          refine ⟨D, _, _, _, rfl, x2.trans e2.loom, lo2.ext e2, pf2.ext e2, (lo2.ext e1).ne new, (x2.trans e1.loom).none new ((lo2.ext e1).ne new), _, List.replicate (n + 1) l0, upd_same, ?_, gd _ (List.length_replicate ..) fun p hp => ?_⟩
          · rw [flat_one, ec]
            rw [flat_one, ec] at e2
            exact paired_rep (pf2.ext e2) (n + 1)
          · rw [List.eq_of_mem_replicate hp]; exact pr0
        · rw [decide_eq_false hw]
          exact iteF ⟨L, _, _, _, rfl, x2, lo2, pf2, nL, zL, ru2⟩
      clear x2 lo2 pf2 nL zL ru2 x6 x7 x8
      rintro σ' H' ⟨L, x6, x7, x8, rfl, x2, lo2, pf2, nL, zL, ru2⟩
      refine ⟨fun σ' H' => ∃ L x6 x7 x8, σ' = [some (V.ref a), some (nV top), some (nV n), some (nV wy), some (V.ref b0), some (V.ref L), x6, x7, x8] ∧ ExtL a b H H' ∧ Loom a b (c + 100) H' ∧ Pf H' (.ref b0) l0 ∧ (L ≠ a ∧ L ≠ b) ∧ H L = Option.none ∧ RuleAt L n H', ?_, ?_⟩
      · refine ⟨_, rfl, _, _, rfl, rfl, _, rfl, ?_⟩
        show if decide ((2 : Int) < (wy : Int)) = true then _ else _
        by_cases hw : (2 : Int) < (wy : Int)
        · rw [decide_eq_true hw]
          refine iteT ⟨_, rfl, _, rfl, a, b, _, n, rfl, lo2, by omega, by omega, fun v l H3 x3 lo3 pf3 pr3 => ⟨_, rfl, _, rfl, _, rfl, _, _, rfl, rfl, a, b, _, n + 1, congrArg (fun z => [V.ref a, V.int z]) (show (n : Int) + 1 = ((n + 1 : Nat) : Int) by omega), lo3, by omega, by omega, by omega, fun r H4 hr4 x4 lo4 => ?_⟩⟩
          obtain ⟨vs, R, hL, tR, gR⟩ := ru2
          have hL4 := x4 _ _ nL.1 nL.2 (x3 _ _ nL.1 nL.2 hL)
          have lR := paired_len tR
          have gl := gR.2.2.1
          refine ⟨L, vs, (r : Int), r, rfl, rfl, hL4, ixN_nat (by omega), L, _, _, _, rfl, ?_, (lo4.mono (by omega)).put nL, ?_, nL, zL, _, R.set r l, upd_same, ?_, gd _ (by rw [List.length_set]; exact gl) fun p hp => ?_⟩
          · exact (x2.trans (x3.trans x4)).put zL
          · exact (pf2.extT (x3.tup lo2)).extT ((x4.tup lo3).put hL4)
          · exact paired_set ((pf3.extT (x4.tup lo3)).extT (Ext.rfl.tup.put hL4)) r (tns_extT (tns_extT tR (x3.tup lo2)) ((x4.tup lo3).put hL4))
          · rcases mem_set hp with hp | rfl
            · exact gR.2.2.2 p hp
            · exact pr3
        · rw [decide_eq_false hw]
          exact iteF ⟨L, _, _, _, rfl, x2, lo2.mono (by omega), pf2, nL, zL, ru2⟩
      clear x2 lo2 pf2 nL zL ru2 x6 x7 x8
      rintro σ' H' ⟨L, x6, x7, x8, rfl, x2, lo2, pf2, nL, zL, vs, R, hL, tR, gR⟩
      exact ⟨_, rfl, .inl ⟨L, _, rfl, SqL.of hL, fun t ht => q _ n R _ (x2.trans (Ext.upd ht).loom) (lo2.ext (Ext.upd ht)) ⟨t, vs, rfl, .inl upd_same, tns_ext tR (Ext.upd ht)⟩ gR ntop⟩⟩
end
end GG
/-! D11: _law_ranked (printed by gen_d11.py). -/
namespace GG
open PySem
open PySem.Spec
open PyProof.Rows
open L2
open RR
open StX
/-- a plain call of a def with a star parameter -/
theorem pe_callR {X : Cx} {CX : CXT} {k : Nat} {f : Addr} {sp : Sp} {E : XK} {x : Str} {p pos : Pos} {e : Expr} {es : List Expr} {t : TA} (F : FnR X.prog X.w X.K X.mg X.base CX k f sp) (hr : Room k X.A) (hk : PySem.W.keepIn X.K (.ref f) = true) (hg : Gl X x) (hm : X.mg x = some (.ref f)) (hx : Passes CX X E) (ha : PA X (e :: es) t) (hd : (x == ("__debug__" : Str)) = false := by decide)
    (he : starEach (e :: es) X.env = (false, eval e X.env) :: starEach es X.env := by rfl) (hpl : (backTo pos (starEach es X.env)).any (·.1) = false := by rfl) :
    PE X (.Call (.Name x p) (e :: es) [] pos) (fun σ H Q => t σ H fun vs H1 => sp vs H1 Q E) := by
  refine ⟨fun pins s σ H Q I h => ?_⟩
  refine wpAny_Call_Name_kw (ld_glob I hg hm ?_ hd)
  refine PySem.W.callWith_K (h₀ := X.base) I.ok.mod.kin hk (thn (ha.run pos pins s σ H _ I h) fun us s1 ⟨vs, H1, I1, r, q⟩ => ⟨I1.kIn, ?_⟩) he hpl
  exact wpAny_call (run_fnR F hr hx I1 r q)
section
variable {w : World} {K : PySem.W.Frag} {mg : Str → Option Value} {base : Heap}
def spRanked : Sp := fun vs H Q _ => ∃ v l n, vs = [v] ∧ Tn H v l ∧ Prm l n ∧ 1 ≤ n ∧ n ≤ 6 ∧ ∀ D r1 r2 H', Ext H H' → H' D = some (.lst [r1, r2]) → Tt H' r1 (List.replicate (n + 1) l) → Tt H' r2 (politeOf l n) → Q (.ref D) H'
theorem sc_ranked : FnScope ["_law_lanes", "_law_many", "_law_a", "_law_b", "_law_c", "_law_d"] ["_law_lanes"] (defScope (topSt 48)) := ⟨rfl, rfl, rfl, by decide +kernel, rfl, by decide +kernel, by decide +kernel⟩
theorem ok_ranked (m : Md K mg) : OkD w K mg base 5 (He.ga K "_law_ranked") m.d__law_ranked ["_law_lanes"] spRanked := by
  refine m.F__law_ranked.ok sc_ranked (fun vs H Q E h => ?_) (fun cdv A outer s H vs Q E hr h => ⟨_, PSs.nox (pss_cons (ps_set (i := 1) sc_ranked.nd rfl (Or.inl rfl) (pe_callB call_len_seq (by rfl) m.n_len PySem.boot_len (pa_cons (pv 0) pa_nil)))
    (pss_cons (ps_if (pt_cmpR op_lt (pv 1) pe_int (nomark _)) (pss_cons (ps_if (pt_cmpR op_eq (pv 1) pe_int (nomark _)) (pss_one (ps_ret (pe_lst (pa_cons (pe_callR (ok_ranks_rule m) hr m.F_ranks_rule.kp rfl m.g_ranks_rule pass0 (pa_cons (pe_ix ix_tup (pv 0) pe_int (fun _ _ => rfl)) pa_nil)) (pa_cons (pe_callR (ok_polite_rule m) hr m.F_polite_rule.kp rfl m.g_polite_rule pass0 (pa_cons (pe_ix ix_tup (pv 0) pe_int (fun _ _ => rfl)) pa_nil)) pa_nil))))) pss_nil) (pss_one (ps_ret (pe_lst (pa_cons (pe_callR (ok_ranks_rule m) hr m.F_ranks_rule.kp rfl m.g_ranks_rule pass0 (pa_cons (pe_ix ix_tup (pv 0) pe_int (fun _ _ => rfl)) (pa_cons (pe_ix ix_tup (pv 0) pe_int (fun _ _ => rfl)) pa_nil))) (pa_cons (pe_callR (ok_polite_rule m) hr m.F_polite_rule.kp rfl m.g_polite_rule pass0 (pa_cons (pe_ix ix_tup (pv 0) pe_int (fun _ _ => rfl)) (pa_cons (pe_ix ix_tup (pv 0) pe_int (fun _ _ => rfl)) pa_nil))) pa_nil)))))) pss_nil)
    (pss_cons (ps_if (pt_cmpR op_eq (pv 1) pe_int (nomark _)) (pss_one (ps_ret (pe_lst (pa_cons (pe_callR (ok_ranks_rule m) hr m.F_ranks_rule.kp rfl m.g_ranks_rule pass0 (pa_cons (pe_ix ix_tup (pv 0) pe_int (fun _ _ => rfl)) (pa_cons (pe_ix ix_tup (pv 0) pe_int (fun _ _ => rfl)) (pa_cons (pe_ix ix_tup (pv 0) pe_int (fun _ _ => rfl)) pa_nil)))) (pa_cons (pe_callR (ok_polite_rule m) hr m.F_polite_rule.kp rfl m.g_polite_rule pass0 (pa_cons (pe_ix ix_tup (pv 0) pe_int (fun _ _ => rfl)) (pa_cons (pe_ix ix_tup (pv 0) pe_int (fun _ _ => rfl)) (pa_cons (pe_ix ix_tup (pv 0) pe_int (fun _ _ => rfl)) pa_nil)))) pa_nil))))) pss_nil)
    (pss_cons (ps_asg (pe_slice sl_tupA (pv 0) po_none (po_some pe_int)) (pg_tup rfl (pgs_cons (pg_name (i := 2) sc_ranked.nd rfl (Or.inl rfl)) (pgs_cons (pg_name (i := 3) sc_ranked.nd rfl (Or.inl rfl)) (pgs_cons (pg_name (i := 4) sc_ranked.nd rfl (Or.inl rfl)) (pgs_cons (pg_name (i := 5) sc_ranked.nd rfl (Or.inl rfl)) pgs_nil))))))
    (pss_cons (ps_if (pt_cmpR op_eq (pv 1) pe_int (nomark _)) (pss_one (ps_ret (pe_lst (pa_cons (pe_callR (ok_ranks_rule m) hr m.F_ranks_rule.kp rfl m.g_ranks_rule pass0 (pa_cons (pv 2) (pa_cons (pv 3) (pa_cons (pv 4) (pa_cons (pv 5) pa_nil))))) (pa_cons (pe_callR (ok_polite_rule m) hr m.F_polite_rule.kp rfl m.g_polite_rule pass0 (pa_cons (pv 2) (pa_cons (pv 3) (pa_cons (pv 4) (pa_cons (pv 5) pa_nil))))) pa_nil))))) pss_nil)
    (pss_cons (ps_if (pt_cmpR op_eq (pv 1) pe_int (nomark _)) (pss_one (ps_ret (pe_lst (pa_cons (pe_callR (ok_ranks_rule m) hr m.F_ranks_rule.kp rfl m.g_ranks_rule pass0 (pa_cons (pv 2) (pa_cons (pv 3) (pa_cons (pv 4) (pa_cons (pv 5) (pa_cons (pe_ix ix_tup (pv 0) pe_int (fun _ _ => rfl)) pa_nil)))))) (pa_cons (pe_callR (ok_polite_rule m) hr m.F_polite_rule.kp rfl m.g_polite_rule pass0 (pa_cons (pv 2) (pa_cons (pv 3) (pa_cons (pv 4) (pa_cons (pv 5) (pa_cons (pe_ix ix_tup (pv 0) pe_int (fun _ _ => rfl)) pa_nil)))))) pa_nil))))) pss_nil)
    (pss_one (ps_ret (pe_lst (pa_cons (pe_callR (ok_ranks_rule m) hr m.F_ranks_rule.kp rfl m.g_ranks_rule pass0 (pa_cons (pv 2) (pa_cons (pv 3) (pa_cons (pv 4) (pa_cons (pv 5) (pa_cons (pe_ix ix_tup (pv 0) pe_int (fun _ _ => rfl)) (pa_cons (pe_ix ix_tup (pv 0) pe_int (fun _ _ => rfl)) pa_nil))))))) (pa_cons (pe_callR (ok_polite_rule m) hr m.F_polite_rule.kp rfl m.g_polite_rule pass0 (pa_cons (pv 2) (pa_cons (pv 3) (pa_cons (pv 4) (pa_cons (pv 5) (pa_cons (pe_ix ix_tup (pv 0) pe_int (fun _ _ => rfl)) (pa_cons (pe_ix ix_tup (pv 0) pe_int (fun _ _ => rfl)) pa_nil))))))) pa_nil))))))))))), ?_⟩)
  · obtain ⟨v, l, n, rfl, _⟩ := h; rfl
  · obtain ⟨v, l, n, rfl, ⟨a, rfl, ha⟩, pr, h1, h6, q⟩ := h
    have e0 : Ext H H := Ext.rfl
    have len : (nVs l).length = n := by rw [nVs_len, pr.1]
    refine ⟨_, rfl, _, _, rfl, .inr (.inl ha), ?_⟩
    rw [len]
    rcases (by omega : n = 1 ∨ n = 2 ∨ n = 3 ∨ n = 4 ∨ n = 5 ∨ n = 6) with rfl | rfl | rfl | rfl | rfl | rfl
    · have dt : True := trivial
      obtain ⟨x0, rfl⟩ : ∃ x0, l = [x0] := by
        match l, pr.1 with
        | [x0], _ => exact ⟨x0, rfl⟩
      exact ⟨_, rfl, _, _, rfl, rfl, _, rfl, iteT ⟨_, rfl, rfl, _, rfl, iteT ⟨_, rfl, a, _, (0 : Int), nV x0, rfl, rfl, .inl ha, rfl, [], nVs [x0], rfl, rfl, by show 1 ≤ sizeLine; decide, fun t ot ht hot => ⟨.ref t, [x0], 1, rfl, ⟨t, ot, rfl, upd_same, hot⟩, pr, by decide, by decide, fun r1 H1 e1 t1 => ⟨_, rfl, a, _, (0 : Int), nV x0, rfl, rfl, .inl (ta_ext ha ((Ext.upd ht).trans e1)), rfl, [], nVs [x0], rfl, rfl, by show 1 ≤ sizeLine; decide, fun t' ot' ht' hot' => ⟨.ref t', [x0], 1, rfl, ⟨t', ot', rfl, upd_same, hot'⟩, pr, by decide, by decide, fun r2 H2 e2 t2 => ⟨by show 2 ≤ sizeLine; decide, fun D hD => q D r1 r2 _ ((e0.trans (((Ext.upd ht).trans e1).trans ((Ext.upd ht').trans e2))).put hD) upd_same (t1.ext (((Ext.upd ht').trans e2).put hD)) (t2.ext (Ext.upd hD))⟩⟩⟩⟩⟩⟩⟩
    · have dt : True := trivial
      obtain ⟨x0, x1, rfl⟩ : ∃ x0 x1, l = [x0, x1] := by
        match l, pr.1 with
        | [x0, x1], _ => exact ⟨x0, x1, rfl⟩
      exact ⟨_, rfl, _, _, rfl, rfl, _, rfl, iteT ⟨_, rfl, rfl, _, rfl, iteF ⟨_, rfl, a, _, (0 : Int), nV x0, rfl, rfl, .inl ha, rfl, _, rfl, a, _, (1 : Int), nV x1, rfl, rfl, .inl ha, rfl, [], nVs [x0, x1], rfl, rfl, by show 2 ≤ sizeLine; decide, fun t ot ht hot => ⟨.ref t, [x0, x1], 2, rfl, ⟨t, ot, rfl, upd_same, hot⟩, pr, by decide, by decide, fun r1 H1 e1 t1 => ⟨_, rfl, a, _, (0 : Int), nV x0, rfl, rfl, .inl (ta_ext ha ((Ext.upd ht).trans e1)), rfl, _, rfl, a, _, (1 : Int), nV x1, rfl, rfl, .inl (ta_ext ha ((Ext.upd ht).trans e1)), rfl, [], nVs [x0, x1], rfl, rfl, by show 2 ≤ sizeLine; decide, fun t' ot' ht' hot' => ⟨.ref t', [x0, x1], 2, rfl, ⟨t', ot', rfl, upd_same, hot'⟩, pr, by decide, by decide, fun r2 H2 e2 t2 => ⟨by show 2 ≤ sizeLine; decide, fun D hD => q D r1 r2 _ ((e0.trans (((Ext.upd ht).trans e1).trans ((Ext.upd ht').trans e2))).put hD) upd_same (t1.ext (((Ext.upd ht').trans e2).put hD)) (t2.ext (Ext.upd hD))⟩⟩⟩⟩⟩⟩⟩
    · have dt : True := trivial
      obtain ⟨x0, x1, x2, rfl⟩ : ∃ x0 x1 x2, l = [x0, x1, x2] := by
        match l, pr.1 with
        | [x0, x1, x2], _ => exact ⟨x0, x1, x2, rfl⟩
      exact ⟨_, rfl, _, _, rfl, rfl, _, rfl, iteF ⟨_, rfl, rfl, _, rfl, iteT ⟨_, rfl, a, _, (0 : Int), nV x0, rfl, rfl, .inl ha, rfl, _, rfl, a, _, (1 : Int), nV x1, rfl, rfl, .inl ha, rfl, _, rfl, a, _, (2 : Int), nV x2, rfl, rfl, .inl ha, rfl, [], nVs [x0, x1, x2], rfl, rfl, by show 3 ≤ sizeLine; decide, fun t ot ht hot => ⟨.ref t, [x0, x1, x2], 3, rfl, ⟨t, ot, rfl, upd_same, hot⟩, pr, by decide, by decide, fun r1 H1 e1 t1 => ⟨_, rfl, a, _, (0 : Int), nV x0, rfl, rfl, .inl (ta_ext ha ((Ext.upd ht).trans e1)), rfl, _, rfl, a, _, (1 : Int), nV x1, rfl, rfl, .inl (ta_ext ha ((Ext.upd ht).trans e1)), rfl, _, rfl, a, _, (2 : Int), nV x2, rfl, rfl, .inl (ta_ext ha ((Ext.upd ht).trans e1)), rfl, [], nVs [x0, x1, x2], rfl, rfl, by show 3 ≤ sizeLine; decide, fun t' ot' ht' hot' => ⟨.ref t', [x0, x1, x2], 3, rfl, ⟨t', ot', rfl, upd_same, hot'⟩, pr, by decide, by decide, fun r2 H2 e2 t2 => ⟨by show 2 ≤ sizeLine; decide, fun D hD => q D r1 r2 _ ((e0.trans (((Ext.upd ht).trans e1).trans ((Ext.upd ht').trans e2))).put hD) upd_same (t1.ext (((Ext.upd ht').trans e2).put hD)) (t2.ext (Ext.upd hD))⟩⟩⟩⟩⟩⟩⟩
    · have dt : True := trivial
      obtain ⟨x0, x1, x2, x3, rfl⟩ : ∃ x0 x1 x2 x3, l = [x0, x1, x2, x3] := by
        match l, pr.1 with
        | [x0, x1, x2, x3], _ => exact ⟨x0, x1, x2, x3, rfl⟩
      refine ⟨_, rfl, _, _, rfl, rfl, _, rfl, iteF ⟨_, rfl, rfl, _, rfl, iteF ⟨_, rfl, _, rfl, sl_any ha fun v1 H0 e0 ⟨b, hb1, hb⟩ => ?_⟩⟩⟩
      subst hb1
      rw [show ((4 : Int)) = ((4 : Nat) : Int) from rfl, cut_to _ _ (by rw [len]; omega)] at hb
      have ha := ta_ext ha e0
      refine ⟨b, _, rfl, .inl hb, rfl, _, _, rfl, _, _, rfl, _, _, rfl, _, _, rfl, rfl, ?_⟩
      exact ⟨_, rfl, rfl, _, rfl, iteT ⟨_, rfl, _, rfl, _, rfl, _, rfl, [], nVs [x0, x1, x2, x3], rfl, rfl, by show 4 ≤ sizeLine; decide, fun t ot ht hot => ⟨.ref t, [x0, x1, x2, x3], 4, rfl, ⟨t, ot, rfl, upd_same, hot⟩, pr, by decide, by decide, fun r1 H1 e1 t1 => ⟨_, rfl, _, rfl, _, rfl, _, rfl, [], nVs [x0, x1, x2, x3], rfl, rfl, by show 4 ≤ sizeLine; decide, fun t' ot' ht' hot' => ⟨.ref t', [x0, x1, x2, x3], 4, rfl, ⟨t', ot', rfl, upd_same, hot'⟩, pr, by decide, by decide, fun r2 H2 e2 t2 => ⟨by show 2 ≤ sizeLine; decide, fun D hD => q D r1 r2 _ ((e0.trans (((Ext.upd ht).trans e1).trans ((Ext.upd ht').trans e2))).put hD) upd_same (t1.ext (((Ext.upd ht').trans e2).put hD)) (t2.ext (Ext.upd hD))⟩⟩⟩⟩⟩⟩
    · have dt : True := trivial
      obtain ⟨x0, x1, x2, x3, x4, rfl⟩ : ∃ x0 x1 x2 x3 x4, l = [x0, x1, x2, x3, x4] := by
        match l, pr.1 with
        | [x0, x1, x2, x3, x4], _ => exact ⟨x0, x1, x2, x3, x4, rfl⟩
      refine ⟨_, rfl, _, _, rfl, rfl, _, rfl, iteF ⟨_, rfl, rfl, _, rfl, iteF ⟨_, rfl, _, rfl, sl_any ha fun v1 H0 e0 ⟨b, hb1, hb⟩ => ?_⟩⟩⟩
      subst hb1
      rw [show ((4 : Int)) = ((4 : Nat) : Int) from rfl, cut_to _ _ (by rw [len]; omega)] at hb
      have ha := ta_ext ha e0
      refine ⟨b, _, rfl, .inl hb, rfl, _, _, rfl, _, _, rfl, _, _, rfl, _, _, rfl, rfl, ?_⟩
      exact ⟨_, rfl, rfl, _, rfl, iteF ⟨_, rfl, rfl, _, rfl, iteT ⟨_, rfl, _, rfl, _, rfl, _, rfl, _, rfl, a, _, (4 : Int), nV x4, rfl, rfl, .inl ha, rfl, [], nVs [x0, x1, x2, x3, x4], rfl, rfl, by show 5 ≤ sizeLine; decide, fun t ot ht hot => ⟨.ref t, [x0, x1, x2, x3, x4], 5, rfl, ⟨t, ot, rfl, upd_same, hot⟩, pr, by decide, by decide, fun r1 H1 e1 t1 => ⟨_, rfl, _, rfl, _, rfl, _, rfl, _, rfl, a, _, (4 : Int), nV x4, rfl, rfl, .inl (ta_ext ha ((Ext.upd ht).trans e1)), rfl, [], nVs [x0, x1, x2, x3, x4], rfl, rfl, by show 5 ≤ sizeLine; decide, fun t' ot' ht' hot' => ⟨.ref t', [x0, x1, x2, x3, x4], 5, rfl, ⟨t', ot', rfl, upd_same, hot'⟩, pr, by decide, by decide, fun r2 H2 e2 t2 => ⟨by show 2 ≤ sizeLine; decide, fun D hD => q D r1 r2 _ ((e0.trans (((Ext.upd ht).trans e1).trans ((Ext.upd ht').trans e2))).put hD) upd_same (t1.ext (((Ext.upd ht').trans e2).put hD)) (t2.ext (Ext.upd hD))⟩⟩⟩⟩⟩⟩⟩
    · have dt : True := trivial
      obtain ⟨x0, x1, x2, x3, x4, x5, rfl⟩ : ∃ x0 x1 x2 x3 x4 x5, l = [x0, x1, x2, x3, x4, x5] := by
        match l, pr.1 with
        | [x0, x1, x2, x3, x4, x5], _ => exact ⟨x0, x1, x2, x3, x4, x5, rfl⟩
      refine ⟨_, rfl, _, _, rfl, rfl, _, rfl, iteF ⟨_, rfl, rfl, _, rfl, iteF ⟨_, rfl, _, rfl, sl_any ha fun v1 H0 e0 ⟨b, hb1, hb⟩ => ?_⟩⟩⟩
      subst hb1
      rw [show ((4 : Int)) = ((4 : Nat) : Int) from rfl, cut_to _ _ (by rw [len]; omega)] at hb
      have ha := ta_ext ha e0
      refine ⟨b, _, rfl, .inl hb, rfl, _, _, rfl, _, _, rfl, _, _, rfl, _, _, rfl, rfl, ?_⟩
      exact ⟨_, rfl, rfl, _, rfl, iteF ⟨_, rfl, rfl, _, rfl, iteF ⟨_, rfl, _, rfl, _, rfl, _, rfl, _, rfl, a, _, (4 : Int), nV x4, rfl, rfl, .inl ha, rfl, _, rfl, a, _, (5 : Int), nV x5, rfl, rfl, .inl ha, rfl, [], nVs [x0, x1, x2, x3, x4, x5], rfl, rfl, by show 6 ≤ sizeLine; decide, fun t ot ht hot => ⟨.ref t, [x0, x1, x2, x3, x4, x5], 6, rfl, ⟨t, ot, rfl, upd_same, hot⟩, pr, by decide, by decide, fun r1 H1 e1 t1 => ⟨_, rfl, _, rfl, _, rfl, _, rfl, _, rfl, a, _, (4 : Int), nV x4, rfl, rfl, .inl (ta_ext ha ((Ext.upd ht).trans e1)), rfl, _, rfl, a, _, (5 : Int), nV x5, rfl, rfl, .inl (ta_ext ha ((Ext.upd ht).trans e1)), rfl, [], nVs [x0, x1, x2, x3, x4, x5], rfl, rfl, by show 6 ≤ sizeLine; decide, fun t' ot' ht' hot' => ⟨.ref t', [x0, x1, x2, x3, x4, x5], 6, rfl, ⟨t', ot', rfl, upd_same, hot'⟩, pr, by decide, by decide, fun r2 H2 e2 t2 => ⟨by show 2 ≤ sizeLine; decide, fun D hD => q D r1 r2 _ ((e0.trans (((Ext.upd ht).trans e1).trans ((Ext.upd ht').trans e2))).put hD) upd_same (t1.ext (((Ext.upd ht').trans e2).put hD)) (t2.ext (Ext.upd hD))⟩⟩⟩⟩⟩⟩⟩
end
end GG
/-! M1: chains, rings, bounds in plain Lean. -/
namespace GG

def rowAt (G : List (List Nat)) (s : Nat) : List Nat := (G[s]?).getD []
/-- the spot at a chain's end -/
def endOf : Nat → List Nat → Nat
  | s, [] => s
  | _, y :: c => endOf (1 + y) c
theorem endOf_app : ∀ (s : Nat) (a b : List Nat), endOf s (a ++ b) = endOf (endOf s a) b
  | _, [], _ => rfl
  | _, y :: a, b => endOf_app (1 + y) a b
theorem chn_app {G : List (List Nat)} : ∀ {s : Nat} {a b : List Nat}, Chn G s (a ++ b) ↔ Chn G s a ∧ Chn G (endOf s a) b
  | _, [], _ => ⟨fun h => ⟨trivial, h⟩, fun h => h.2⟩
  | s, y :: a, b => ⟨fun h => ⟨⟨h.1, (chn_app.mp h.2).1⟩, (chn_app.mp h.2).2⟩, fun h => ⟨h.1.1, chn_app.mpr ⟨h.1.2, h.2⟩⟩⟩
/-- a closed chain -/
def Ring (G : List (List Nat)) (h : Nat) (t : List Nat) : Prop := Chn G (1 + h) t ∧ h ∈ rowAt G (endOf (1 + h) t)
theorem ring_rot {G : List (List Nat)} {h y : Nat} {t : List Nat} (r : Ring G h t) (hy : y ∈ h :: t) : ∃ t', Ring G y t' ∧ (y :: t').Perm (h :: t) := by
  rcases List.mem_cons.mp hy with rfl | hy
  · exact ⟨t, r, List.Perm.refl _⟩
  · obtain ⟨t1, t2, rfl⟩ := List.append_of_mem hy
    obtain ⟨r1, r2⟩ := r
    rw [chn_app] at r1
    rw [endOf_app] at r2
    obtain ⟨c1, c2, c3⟩ := r1
    refine ⟨t2 ++ h :: t1, ⟨chn_app.mpr ⟨c3, r2, c1⟩, ?_⟩, ?_⟩
    · rw [endOf_app]
      exact c2
    · have p1 : (y :: (t2 ++ h :: t1)).Perm (h :: t1 ++ y :: t2) := by
        have : (y :: (t2 ++ h :: t1)) = (y :: t2) ++ (h :: t1) := rfl
        rw [this]
        exact List.perm_append_comm
      exact p1
theorem dup_split : ∀ {l : List Nat}, ¬ l.Nodup → ∃ a y b c, l = a ++ y :: (b ++ y :: c)
  | [], h => absurd List.nodup_nil h
  | x :: r, h => by
    by_cases hx : x ∈ r
    · obtain ⟨b, c, rfl⟩ := List.append_of_mem hx
      exact ⟨[], x, b, c, rfl⟩
    · obtain ⟨a, y, b, c, rfl⟩ := dup_split (l := r) fun nd => h (List.nodup_cons.mpr ⟨hx, nd⟩)
      exact ⟨x :: a, y, b, c, rfl⟩
/-- a chain that meets a lane twice holds a ring -/
theorem chn_dup {G : List (List Nat)} {s : Nat} {c : List Nat} (h : Chn G s c) (nd : ¬ c.Nodup) : ∃ h t, Ring G h t := by
  obtain ⟨a, y, b, d, rfl⟩ := dup_split nd
  obtain ⟨_, _, h2⟩ := chn_app.mp h
  obtain ⟨h3, h4⟩ := chn_app.mp h2
  exact ⟨y, b, h3, h4.1⟩
theorem min_mem : ∀ {l : List Nat}, l ≠ [] → ∃ m ∈ l, ∀ x ∈ l, m ≤ x
  | [], h => absurd rfl h
  | [x], _ => ⟨x, List.mem_cons_self, fun y hy => by simp at hy; omega⟩
  | x :: y :: r, _ => by
    obtain ⟨m, h1, h2⟩ := min_mem (l := y :: r) (by simp)
    by_cases hx : x ≤ m
    · refine ⟨x, List.mem_cons_self, fun z hz => ?_⟩
      rcases List.mem_cons.mp hz with rfl | hz
      · exact Nat.le_refl _
      · exact Nat.le_trans hx (h2 z hz)
    · refine ⟨m, List.mem_cons_of_mem _ h1, fun z hz => ?_⟩
      rcases List.mem_cons.mp hz with rfl | hz
      · omega
      · exact h2 z hz
/-- a ring gives a simple one that begins with its least lane -/
theorem ring_simple {G : List (List Nat)} : ∀ (n : Nat) {h : Nat} {t : List Nat}, t.length ≤ n → Ring G h t → ∃ m q, Ring G m q ∧ (∀ x ∈ q, m < x) ∧ q.Nodup
  | n, h, t, hn, r => by
    by_cases nd : (h :: t).Nodup
    · obtain ⟨m, hm, hmin⟩ := min_mem (l := h :: t) (by simp)
      obtain ⟨q, r2, pm⟩ := ring_rot r hm
      have nd2 := List.nodup_cons.mp (pm.nodup_iff.mpr nd)
      refine ⟨m, q, r2, fun x hx => ?_, nd2.2⟩
      have h1 := hmin x (pm.mem_iff.mp (List.mem_cons_of_mem _ hx))
      have h2 : m ≠ x := fun z => nd2.1 (z ▸ hx)
      omega
    · obtain ⟨a, y, b, c, e⟩ := dup_split nd
      have hy : y ∈ h :: t := by rw [e]; simp
      obtain ⟨t', r', pm⟩ := ring_rot r hy
      have hy2 : y ∈ t' := by
        have h1 := pm.count_eq y
        rw [e] at h1
        simp only [List.count_append, List.count_cons] at h1
        simp at h1
        refine List.count_pos_iff.mp ?_
        omega
      obtain ⟨t1, t2, rfl⟩ := List.append_of_mem hy2
      obtain ⟨c1, c2, _⟩ := chn_app.mp r'.1
      have hl := pm.length_eq
      simp only [List.length_cons, List.length_append] at hl
      cases n with
      | zero => omega
      | succ n => exact ring_simple n (h := y) (t := t1) (by omega) ⟨c1, c2⟩
/-- the end of a walk of rings from path h :: t: none was found -/
def NoRing (G : List (List Nat)) (h : Nat) (t : List Nat) : Prop := ∀ q, Chn G (endOf (1 + h) t) q → (∀ x ∈ q, h < x ∧ x ∉ t) → q.Nodup → h ∉ rowAt G (endOf (endOf (1 + h) t) q)
theorem noRing_all {G : List (List Nat)} {P : Nat → Prop} (hP : ∀ s, ∀ y ∈ rowAt G s, P y) (h : ∀ h, P h → NoRing G h []) : ¬ ∃ h t, Ring G h t := by
  rintro ⟨h0, t0, r⟩
  obtain ⟨m, q, r2, h1, h2⟩ := ring_simple _ (Nat.le_refl _) r
  exact h m (hP _ m r2.2) q r2.1 (fun x hx => ⟨h1 x hx, by simp⟩) h2 r2.2
theorem chn_le {G : List (List Nat)} {n : Nat} (hP : ∀ s, ∀ y ∈ rowAt G s, y < n) (no : ¬ ∃ h t, Ring G h t) {s : Nat} {c : List Nat} (h : Chn G s c) : c.length ≤ n := by
  have nd : c.Nodup := Decidable.byContradiction fun z => no (chn_dup h z)
  have sub : ∀ {s c}, Chn G s c → ∀ x ∈ c, x < n := by
    intro s c
    induction c generalizing s with
    | nil => intro _ x hx; cases hx
    | cons y r ih =>
      intro h x hx
      rcases List.mem_cons.mp hx with rfl | hx
      · exact hP _ _ h.1
      · exact ih h.2 x hx
  have := nodup_le nd (m := List.range n) fun x hx => List.mem_range.mpr (sub h x hx)
  rwa [List.length_range] at this
/-- the same rows but for their order -/
theorem chn_congr {G G' : List (List Nat)} (h : ∀ s y, y ∈ rowAt G s → y ∈ rowAt G' s) : ∀ {s : Nat} {c : List Nat}, Chn G s c → Chn G' s c
  | _, [], _ => trivial
  | s, y :: c, k => ⟨h s y k.1, chn_congr h k.2⟩
theorem ring_congr {G G' : List (List Nat)} (h : ∀ s y, y ∈ rowAt G s → y ∈ rowAt G' s) {x : Nat} {t : List Nat} (r : Ring G x t) : Ring G' x t := ⟨chn_congr h r.1, h _ _ r.2⟩
/-- what a bound is -/
def BoundG (G : List (List Nat)) : Option Nat → Prop
  | none => ∃ h t, Ring G h t
  | some b => (¬ ∃ h t, Ring G h t) ∧ (∀ s, s < G.length → ∀ c, Chn G s c → c.length ≤ b) ∧ ∃ s, s < G.length ∧ ∃ c, Chn G s c ∧ c.length = b
theorem bound_one {G : List (List Nat)} : ∀ {o o' : Option Nat}, BoundG G o → BoundG G o' → o = o'
  | none, none, _, _ => rfl
  | none, some _, h, k => absurd h k.1
  | some _, none, h, k => absurd k h.1
  | some a, some b, h, k => by
    obtain ⟨_, h2, s, hs, c, hc, rfl⟩ := h
    obtain ⟨_, k2, s', hs', c', hc', rfl⟩ := k
    have := h2 s' hs' c' hc'
    have := k2 s hs c hc
    congr 1; omega
theorem bound_congr {G G' : List (List Nat)} (hl : G.length = G'.length) (h : ∀ s y, y ∈ rowAt G s ↔ y ∈ rowAt G' s) {o : Option Nat} (b : BoundG G o) : BoundG G' o := by
  have f : ∀ {s c}, Chn G s c → Chn G' s c := chn_congr fun s y => (h s y).mp
  have g : ∀ {s c}, Chn G' s c → Chn G s c := chn_congr fun s y => (h s y).mpr
  have f2 : ∀ {x t}, Ring G x t → Ring G' x t := ring_congr fun s y => (h s y).mp
  have g2 : ∀ {x t}, Ring G' x t → Ring G x t := ring_congr fun s y => (h s y).mpr
  cases o with
  | none => obtain ⟨x, t, r⟩ := b; exact ⟨x, t, f2 r⟩
  | some b' =>
    obtain ⟨b1, b2, s, hs, c, hc, e⟩ := b
    exact ⟨fun ⟨x, t, r⟩ => b1 ⟨x, t, g2 r⟩, fun s hs c hc => b2 s (hl ▸ hs) c (g hc), s, hl ▸ hs, c, f hc, e⟩
/-- by a measure that every arrow lowers -/
theorem bound_pot {G : List (List Nat)} {b : Nat} (p : Nat → Nat) (hp : ∀ s y, y ∈ rowAt G s → p (1 + y) < p s) (hb : ∀ s, s < G.length → p s ≤ b) (hc : ∃ s, s < G.length ∧ ∃ c, Chn G s c ∧ c.length = b) : BoundG G (some b) := by
  have key : ∀ {c s}, Chn G s c → p (endOf s c) + c.length ≤ p s := by
    intro c
    induction c with
    | nil => intro s _; exact Nat.le_refl _
    | cons y c ih =>
      intro s h
      have h1 := hp s y h.1
      have h2 := ih h.2
      show p (endOf (1 + y) c) + (c.length + 1) ≤ p s
      omega
  refine ⟨fun ⟨h, t, r⟩ => ?_, fun s hs c h => ?_, hc⟩
  · have h1 := key r.1
    have h2 := hp _ _ r.2
    omega
  · have h1 := key h
    have h2 := hb s hs
    omega
/-- the arrows of a rule towards a lane -/
def gr (R : List (List Nat)) (l : Nat) : List (List Nat) := R.map (ahead l)
theorem gr_len (R : List (List Nat)) (l : Nat) : (gr R l).length = R.length := List.length_map ..
theorem gr_row (R : List (List Nat)) (l s : Nat) : rowAt (gr R l) s = ahead l ((R[s]?).getD []) := by
  unfold rowAt gr
  rw [List.getElem?_map]
  cases R[s]? <;> rfl
theorem gok_row {l : Nat} {R G : List (List Nat)} (g : GOk l R G) (s y : Nat) : y ∈ rowAt G s ↔ y ∈ rowAt (gr R l) s := by
  rw [gr_row]
  unfold rowAt
  cases hs : R[s]? with
  | some p =>
    obtain ⟨x, h1, h2⟩ := paired_get s p g hs
    rw [h1]
    exact h2.mem_iff
  | none =>
    have hl := paired_len g
    have h1 : R.length ≤ s := List.getElem?_eq_none_iff.mp hs
    rw [List.getElem?_eq_none (by omega)]
    exact Iff.rfl
theorem mem_tw {p : Nat → Bool} {y : Nat} : ∀ {l : List Nat}, y ∈ l.takeWhile p → p y = true
  | [], h => by cases h
  | x :: r, h => by
    rw [List.takeWhile_cons] at h
    cases e : p x with
    | false => rw [e] at h; cases h
    | true =>
      rw [e] at h
      rcases List.mem_cons.mp h with rfl | h
      · exact e
      · exact mem_tw h
theorem ahead_lt {l n : Nat} {p : List Nat} (pr : Prm p n) {y : Nat} (h : y ∈ ahead l p) : y < n ∧ y ≠ l := by
  unfold ahead at h
  refine ⟨pr.2.1 y (List.takeWhile_sublist _ |>.mem h), ?_⟩
  have := mem_tw h
  simpa using this
theorem gr_lt {R : List (List Nat)} {n l : Nat} (g : Good n R) : ∀ s, ∀ y ∈ rowAt (gr R l) s, y < n ∧ y ≠ l := by
  intro s y hy
  rw [gr_row] at hy
  cases hs : R[s]? with
  | none => rw [hs] at hy; cases hy
  | some p =>
    rw [hs] at hy
    exact ahead_lt (g.2.2.2 p (List.mem_of_getElem? hs)) hy
end GG
/-! D12: the generators: rings, each_ring, first_ring. -/
namespace GG
open PySem
open PySem.Spec
open PyProof.Rows
open L2
open RR
open StX

theorem forG_list {K : PySem.W.Frag} {a : Addr} {xs : List V} {g : TG} {tb : TSg} {D : Ends} {yl : VK} {σ : L2.St} {H : Hp} (Pv : Nat → L2.St → Hp → Prop) (h0 : Pv 0 σ H) (hl : ∀ i σ H, i ≤ xs.length → Pv i σ H → SqL K H a xs)
    (hs : ∀ i x σ H, xs[i]? = some x → Pv i σ H → g x σ H fun σ2 H2 => tb { D with nx := Pv (i + 1), ct := Pv (i + 1), bk := D.nx } yl σ2 H2) (hd : ∀ σ H, Pv xs.length σ H → D.nx σ H) :
    ∃ W : Nat → Nat → L2.St → Hp → Prop, (∃ m, W 0 m σ H) ∧ ∀ i m σ H, W i m σ H →
      ((Itl K a).stop i H ∧ D.nx σ H) ∨ ((Itl K a).go i H ∧ ∃ N : L2.St → Hp → Prop, (∀ σ' H', N σ' H' → ∃ m', m' < m ∧ W (i + 1) m' σ' H') ∧ ∀ x H', (Itl K a).yld i H x H' → g x σ H' fun σ2 H2 => tb { D with nx := N, ct := N, bk := D.nx } yl σ2 H2) :=
  for_list (tb := fun D σ H => tb D yl σ H) Pv h0 hl hs hd
theorem forG_range {lo : Int} {n : Nat} {g : TG} {tb : TSg} {D : Ends} {yl : VK} {σ : L2.St} {H : Hp} (Pv : Nat → L2.St → Hp → Prop) (h0 : Pv 0 σ H)
    (hs : ∀ i σ H, i < n → Pv i σ H → g (.int (lo + i)) σ H fun σ2 H2 => tb { D with nx := Pv (i + 1), ct := Pv (i + 1), bk := D.nx } yl σ2 H2) (hd : ∀ σ H, Pv n σ H → D.nx σ H) :
    ∃ W : Nat → Nat → L2.St → Hp → Prop, (∃ m, W 0 m σ H) ∧ ∀ i m σ H, W i m σ H →
      ((Itr lo n).stop i H ∧ D.nx σ H) ∨ ((Itr lo n).go i H ∧ ∃ N : L2.St → Hp → Prop, (∀ σ' H', N σ' H' → ∃ m', m' < m ∧ W (i + 1) m' σ' H') ∧ ∀ x H', (Itr lo n).yld i H x H' → g x σ H' fun σ2 H2 => tb { D with nx := N, ct := N, bk := D.nx } yl σ2 H2) :=
  for_range (tb := fun D σ H => tb D yl σ H) Pv h0 hs hd
theorem last_spot (h : Nat) (t : List Nat) : 1 + (h :: t).getLast (by simp) = endOf (1 + h) t := by
  induction t generalizing h with
  | nil => rfl
  | cons y r ih =>
    rw [List.getLast_cons (by simp)]
    exact ih y
section
variable {Z : Result → Shared → Prop} {w : World} {K : PySem.W.Frag} {mg : Str → Option Value} {base : Heap}
def spRings (K : PySem.W.Frag) (d : Nat) : SpGG := fun vs H Qy Qe => ∃ x v l G h t n, vs = [x, v] ∧ Arr K H x l G ∧ G.length = n + 1 ∧ n ≤ 60 ∧ (∀ s, ∀ y ∈ rowAt G s, y < n) ∧ Tn H v (h :: t) ∧ h < n ∧ (∀ y ∈ t, y < n ∧ h < y) ∧ t.Nodup ∧ n ≤ t.length + d ∧ Chn G (1 + h) t ∧
  (∀ v' h' t' H', Ext H H' → Tn H' v' (h' :: t') → Ring G h' t' → t'.length < n → Qy v' H') ∧ ∀ H', Ext H H' → NoRing G h t → Qe H'
theorem path_len {h n : Nat} {t : List Nat} (h1 : h < n) (h2 : ∀ y ∈ t, y < n ∧ h < y) (h3 : t.Nodup) : t.length + 1 ≤ n := by
  have nd : (h :: t).Nodup := List.nodup_cons.mpr ⟨fun z => by have := (h2 h z).2; omega, h3⟩
  have := nodup_le nd (m := List.range n) fun x hx => by
    rcases List.mem_cons.mp hx with rfl | hx
    · exact List.mem_range.mpr h1
    · exact List.mem_range.mpr (h2 x hx).1
  rw [List.length_range] at this
  exact this
theorem end_lt {G : List (List Nat)} {n : Nat} (hP : ∀ s, ∀ y ∈ rowAt G s, y < n) : ∀ {s : Nat} {c : List Nat}, s < n + 1 → Chn G s c → endOf s c < n + 1
  | _, [], h, _ => h
  | s, y :: c, _, k => (end_lt (s := 1 + y) (c := c) hP (by have := hP s y k.1; omega) k.2 : endOf (1 + y) c < n + 1)
theorem at_last (h : Nat) (t : List Nat) : atI (nVs (h :: t)) (-1) = some (nV ((h :: t).getLast (by simp))) := by
  have hl : (nVs (h :: t)).length = t.length + 1 := by rw [nVs_len]; rfl
  unfold atI ixN
  rw [hl, if_neg (by omega), if_pos (by omega)]
  have e : ((-1 : Int) + ((t.length + 1 : Nat) : Int)).toNat = t.length := by omega
  rw [e]
  show (nVs (h :: t))[t.length]? = _
  rw [List.getElem?_map, List.getLast_eq_getElem]
  simp
theorem noRing_step {G : List (List Nat)} {h : Nat} {t : List Nat} (h0 : h ∉ rowAt G (endOf (1 + h) t)) (hs : ∀ y ∈ rowAt G (endOf (1 + h) t), h < y → y ∉ t → NoRing G h (t ++ [y])) : NoRing G h t := by
  intro q cq hq nd
  cases q with
  | nil => exact h0
  | cons x q =>
    obtain ⟨g1, g2⟩ := hq x List.mem_cons_self
    have nd' := List.nodup_cons.mp nd
    have k := hs x cq.1 g1 g2 q
    rw [endOf_app] at k
    exact k cq.2 (fun z hz => ⟨(hq z (List.mem_cons_of_mem _ hz)).1, fun hm => by
      rcases List.mem_append.mp hm with hm | hm
      · exact (hq z (List.mem_cons_of_mem _ hz)).2 hm
      · obtain rfl : z = x := by simpa using hm
        exact nd'.1 hz⟩) nd'.2
theorem sc_rings : GScope ["self", "path", "row", "lane"] ["self", "path"] (defScope (inCls 1 (topSt 30))) := ⟨rfl, rfl, rfl, by decide +kernel, rfl, by decide +kernel, by decide +kernel⟩
theorem ok_rings (m : Md K mg) : ∀ d, GFnG Z PW w K mg base (2 * d) (He.ma K (aCls K) "rings") m.e_rings ["self", "path"] (spRings K d)
  | 0 => ⟨fun vs H Q E h => by obtain ⟨x, v, l, G, h, t, n, _, _, _, _, _, _, h1, h2, h3, h4, _⟩ := h; have := path_len h1 h2 h3; omega, fun A outer s H args us vs Qy Qe _ _ _ _ h => by obtain ⟨x, v, l, G, h, t, n, _, _, _, _, _, _, h1, h2, h3, h4, _⟩ := h; have := path_len h1 h2 h3; omega⟩
  | d + 1 => by
    refine Fun.gen (He5.fun_of m.E_rings) sc_rings (fun vs H Q E h => ?_) (fun cdv A outer s H vs Qy Qe pn hr h => ⟨_, pssg_cons (psg_of (ps_set (i := 2) sc_rings.nd rfl (Or.inl rfl) (pe_ix ix_list (pe_fld (pv 0) (by rfl)) (pe_call (ok_spot_of m) (hr.mono (by omega)) rfl m.g_spot_of m.F_spot_of.kp m.b_spot_of .nil pass0 (pa_cons (pe_ix ix_tup (pv 1) (pe_un un_neg pe_int) (fun _ _ => rfl)) pa_nil)) (fun _ _ => rfl))))
      (pssg_cons (psg_if (ptg_of (pt_cmpR op_in_seq (pe_ix ix_tup (pv 1) pe_int (fun _ _ => rfl)) (pv 2) (by rfl))) (pssg_one (psg_yield (peg_of (pv 1)))) pssg_nil)
      (pssg_one (psg_for (fun _ _ h => h) rfl (pig_list (peg_of (pv 2))) (pg_name (i := 3) sc_rings.nd rfl (Or.inl rfl))
        (pssg_one (psg_if (ptg_of (PW.pt (pw_and (pt_cmpR op_gt (pv 3) (pe_ix ix_tup (pv 1) pe_int (fun _ _ => rfl)) (nomark _)) (pw_and1 (pt_cmpR op_notIn_seq (pv 3) (pv 1) (by rfl))))))
          (pssg_one (psg_yieldFrom (pgen_meth (pv 0) m.cls m.m_rings (ok_rings m d) hr m.eb_rings .nil (pa_cons (pe_tup (pa_star (pv 1) (pa_cons (pv 3) pa_nil))) pa_nil)) (fun _ _ h => h))) pssg_nil))))), ?_⟩)
    · obtain ⟨x, v, l, G, h, t, n, rfl, _⟩ := h; rfl
    · obtain ⟨x, v, l, G, h, t, n, rfl, ar, hG, h60, hP, ⟨b, rfl, hb⟩, h1, h2, h3, h4, cn, qy, qe⟩ := h
      have ar' := ar
      obtain ⟨a, dx, L, ls, rfl, k1, k2, k3⟩ := ar
      have hS : endOf (1 + h) t < G.length := by rw [hG]; exact end_lt hP (by omega) cn
      obtain ⟨xb, g, hx, hg, rb, rfl, hrb⟩ := paired_getR _ k3 hS
      have eS : spot (some ((h :: t).getLast (by simp))) = endOf (1 + h) t := by
        rw [← last_spot]
        exact Nat.add_comm _ _
      have eg : rowAt G (endOf (1 + h) t) = g := by unfold rowAt; rw [hg]; rfl
      refine ⟨_, rfl, a, _, dx, _, _, rfl, k1, m.cls, m.noRows, rfl, _, rfl, (1 : Int), rfl, b, _, (-1 : Int), _, rfl, rfl, .inl hb, at_last h t, some ((h :: t).getLast (by simp)), rfl, L, ls, _, V.ref rb, rfl, rfl, SqL.of k2, atI_nat (by rw [eS]; exact hx), ?_⟩
      refine ⟨_, rfl, b, _, (0 : Int), nV h, rfl, rfl, .inl hb, atI_nat (j := 0) rfl, _, rfl, rb, _, rfl, .inl (SqL.of hrb), by rfl, flat_nVs _, _, rfl, ?_⟩
      rw [if_neg Bool.false_ne_true, in_nVs]
      cases hc : g.contains h with
      | true => exact iteT ⟨_, rfl, qy _ h t _ Ext.rfl ⟨b, rfl, hb⟩ ⟨cn, by rw [eg]; exact List.contains_iff_mem.mp hc⟩ (path_len h1 h2 h3)⟩
      | false =>
        have nh : h ∉ rowAt G (endOf (1 + h) t) := fun z => by
          rw [eg] at z
          rw [List.contains_iff_mem.mpr z] at hc; cases hc
        refine iteF ⟨_, rfl, rb, rfl, ⟨_, SqL.of hrb⟩, forG_list (xs := nVs g) (fun i σ' H' => Ext H H' ∧ (∀ y ∈ g.take i, h < y → y ∉ t → NoRing G h (t ++ [y])) ∧ ∃ x3, σ' = [some (V.ref a), some (V.ref b), some (V.ref rb), x3]) ⟨Ext.rfl, fun y hy => by simp at hy, _, rfl⟩ (fun i σ' H' _ p => SqL.of (p.1 _ _ hrb)) (fun i x σ' H' hx p => ?_) fun σ' H' p => ?_⟩
        · obtain ⟨e1, hdone, x3, rfl⟩ := p
          obtain ⟨y, hy, rfl⟩ := nVs_get hx
          have hb1 := ta_ext hb e1
          have ymem : y ∈ rowAt G (endOf (1 + h) t) := by rw [eg]; exact List.mem_of_getElem? hy
          have step : (h < y → y ∉ t → NoRing G h (t ++ [y])) → ∀ z ∈ g.take (i + 1), h < z → z ∉ t → NoRing G h (t ++ [z]) := fun hn z hz => by
            rw [List.take_add_one, hy] at hz
            rcases List.mem_append.mp hz with hz | hz
            · exact hdone z hz
            · obtain rfl : z = y := by simpa using hz
              exact hn
          refine ⟨_, rfl, _, rfl, b, _, (0 : Int), nV h, rfl, rfl, .inl hb1, atI_nat (j := 0) rfl, _, _, rfl, rfl, _, rfl, ?_⟩
          show if decide ((h : Int) < (y : Int)) = true then _ else _
          by_cases hlt : (h : Int) < (y : Int)
          · rw [decide_eq_true hlt]
            refine iteT ⟨_, rfl, _, rfl, b, _, rfl, .inr (.inl hb1), by rfl, flat_nVs _, _, rfl, ?_⟩
            rw [if_pos rfl, in_nVs]
            cases hin : (h :: t).contains y with
            | true =>
              refine iteF ⟨e1, step fun _ z => ?_, _, rfl⟩
              exfalso
              rcases List.mem_cons.mp (List.contains_iff_mem.mp hin) with w | w
              · omega
              · exact z w
            | false =>
              have ny : y ∉ t := fun z => by
                rw [List.contains_iff_mem.mpr (List.mem_cons_of_mem h z)] at hin; cases hin
              refine iteT ⟨_, rfl, a, dx, _, rfl, e1 _ _ k1, rfl, _, rfl, b, _, rfl, .inl (.inl hb1), _, rfl, ?_, fun tt htt => ?_⟩
              · have := path_len h1 h2 h3
                simp only [List.length_append, List.length_map, List.length_cons, List.length_nil]
                rw [sizeLine_eq]; omega
              · have e2 := e1.put (o := .tup (nVs (h :: t) ++ [nV y])) htt
                refine ⟨.ref a, .ref tt, l, G, h, t ++ [y], n, rfl, ar'.ext e2, hG, h60, hP, ⟨tt, rfl, .inl (by rw [upd_same]; show some (HO.tup (nVs (h :: t) ++ [nV y])) = some (HO.tup (nVs ((h :: t) ++ [y]))); rw [nVs_app]; rfl)⟩, h1, fun z hz => ?_, ?_, by rw [List.length_append]; simp only [List.length_cons, List.length_nil]; omega, chn_app.mpr ⟨cn, ymem, trivial⟩, fun v' h' t' H'' e3 => qy v' h' t' H'' (e2.trans e3), fun H'' e3 nr => ⟨e2.trans e3, step fun _ _ => nr, _, rfl⟩⟩
                · rcases List.mem_append.mp hz with hz | hz
                  · exact h2 z hz
                  · obtain rfl : z = y := by simpa using hz
                    exact ⟨hP _ _ ymem, by omega⟩
                · refine List.nodup_append.mpr ⟨h3, List.nodup_cons.mpr ⟨by simp, List.nodup_nil⟩, fun p hp q hq => ?_⟩
                  obtain rfl : q = y := by simpa using hq
                  exact fun z => ny (z ▸ hp)
          · rw [decide_eq_false hlt]
            exact iteF (iteF ⟨e1, step fun z => by omega, _, rfl⟩)
        · obtain ⟨e1, hdone, x3, rfl⟩ := p
          rw [nVs_len, List.take_length] at hdone
          exact qe H' e1 (noRing_step nh fun y hy => hdone y (eg ▸ hy))
/-! ### each_ring, first_ring -/
def spEach (K : PySem.W.Frag) : SpGG := fun vs H Qy Qe => ∃ x l G n, vs = [x] ∧ Arr K H x l G ∧ G.length = n + 1 ∧ n ≤ 6 ∧ (∀ s, ∀ y ∈ rowAt G s, y < n ∧ y ≠ l) ∧ (∀ v' h' t' H', Ext H H' → Tn H' v' (h' :: t') → Ring G h' t' → t'.length < n → Qy v' H') ∧ ∀ H', Ext H H' → (¬ ∃ h t, Ring G h t) → Qe H'
theorem sc_each : GScope ["self", "lane"] ["self"] (defScope (inCls 2 (topSt 30))) := ⟨rfl, rfl, rfl, by decide +kernel, rfl, by decide +kernel, by decide +kernel⟩
theorem ok_each (m : Md K mg) : GFnG Z PW w K mg base 14 (He.ma K (aCls K) "each_ring") m.e_each_ring ["self"] (spEach K) := by
  refine Fun.gen (k := 13) (He5.fun_of m.E_each_ring) sc_each (fun vs H Q E h => ?_) (fun cdv A outer s H vs Qy Qe pn hr h => ⟨_, (pssg_one (psg_for (fun _ _ h => h) rfl (pig_range1 (by rfl) m.n_range (pa_cons (pe_op op_sub (pe_callB call_len_seq (by rfl) m.n_len PySem.boot_len (pa_cons (pe_fld (pv 0) (by rfl)) pa_nil)) pe_int) pa_nil)) (pg_name (i := 1) sc_each.nd rfl (Or.inl rfl))
        (pssg_one (psg_if (ptg_of (pt_cmpR op_ne (pv 1) (pe_fld (pv 0) (by rfl)) (nomark _)))
          (pssg_one (psg_yieldFrom (pgen_meth (pv 0) m.cls m.m_rings (ok_rings m 6) hr m.eb_rings .nil (pa_cons (pe_tup (pa_cons (pv 1) pa_nil)) pa_nil)) (fun _ _ h => h))) pssg_nil)))), ?_⟩)
  · obtain ⟨x, l, G, n, rfl, _⟩ := h; rfl
  · obtain ⟨x, l, G, n, rfl, ar, hG, h6, hP, qy, qe⟩ := h
    have ar' := ar
    obtain ⟨a, dx, L, ls, rfl, k1, k2, k3⟩ := ar
    have ll := paired_len k3
    refine ⟨_, rfl, a, _, dx, _, _, rfl, k1, m.cls, m.noRows, rfl, _, _, rfl, .inl (SqL.of k2), _, _, rfl, rfl, (n : Int), congrArg (fun z => [V.int z]) (show (ls.length : Int) - 1 = (n : Int) by omega), by omega, by omega, ?_⟩
    have en : ((n : Nat) : Int).toNat = n := rfl
    rw [en]
    refine forG_range (lo := 0) (n := n) (fun i σ' H' => Ext H H' ∧ (∀ h, h < i → h ≠ l → NoRing G h []) ∧ ∃ x1, σ' = [some (V.ref a), x1]) ⟨Ext.rfl, fun h hh => by omega, _, rfl⟩ (fun i σ' H' hi p => ?_) fun σ' H' p => ?_
    · obtain ⟨e1, hdone, x1, rfl⟩ := p
      have step : (i ≠ l → NoRing G i []) → ∀ h, h < i + 1 → h ≠ l → NoRing G h [] := fun k h hh => by
        by_cases z : h = i
        · rw [z]; exact k
        · exact hdone h (by omega)
      refine ⟨_, rfl, _, rfl, a, _, dx, _, _, rfl, e1 _ _ k1, m.cls, m.noLane, rfl, rfl, _, rfl, ?_⟩
      show if (!decide (V.int (0 + (i : Int)) = nV l)) = true then _ else _
      rw [Int.zero_add]
      by_cases hl : i = l
      · rw [hl, decide_eq_true rfl]
        rw [hl] at step
        exact iteF ⟨e1, step fun z => absurd rfl z, _, rfl⟩
      · rw [decide_eq_false (fun z => hl (by injection z with z; omega))]
        refine iteT ⟨_, rfl, a, dx, _, rfl, e1 _ _ k1, rfl, _, rfl, by show 1 ≤ sizeLine; decide, fun tt htt => ?_⟩
        have e2 := e1.put (o := .tup [V.int (i : Int)]) htt
        exact ⟨.ref a, .ref tt, l, G, i, [], n, rfl, ar'.ext e2, hG, by omega, fun s y hy => (hP s y hy).1, ⟨tt, rfl, .inl (by rw [upd_same]; rfl)⟩, hi, (fun y hy => by cases hy), List.nodup_nil, by simpa using h6, trivial, fun v' h' t' H'' e3 => qy v' h' t' H'' (e2.trans e3), fun H'' e3 nr => ⟨e2.trans e3, step fun _ => nr, _, rfl⟩⟩
    · obtain ⟨e1, hdone, x1, rfl⟩ := p
      exact qe H' e1 (noRing_all (P := fun y => y < n ∧ y ≠ l) hP fun h k => hdone h k.1 k.2)
theorem sc_first : FnScope ["self", "ring"] ["self"] (defScope (inCls 3 (topSt 30))) := ⟨rfl, rfl, rfl, by decide +kernel, rfl, by decide +kernel, by decide +kernel⟩
def spFirst (K : PySem.W.Frag) : Sp := fun vs H Q _ => ∃ x l G n, vs = [x] ∧ Arr K H x l G ∧ G.length = n + 1 ∧ n ≤ 6 ∧ (∀ s, ∀ y ∈ rowAt G s, y < n ∧ y ≠ l) ∧ (∀ v' h' t' H', Ext H H' → Tn H' v' (h' :: t') → Ring G h' t' → t'.length < n → Q v' H') ∧ ∀ H', Ext H H' → (¬ ∃ h t, Ring G h t) → Q .non H'
theorem ok_first (m : Md K mg) : FnG Z PW w K mg base 16 (He.ma K (aCls K) "first_ring") m.e_first_ring ["self"] (spFirst K) := by
  refine Fun.okG (k := 15) (He5.fun_of m.E_first_ring) sc_first (fun vs H Q E h => ?_) (fun cdv A outer s H vs Q hr h => ⟨_, pssg_cons (psg_first (fun _ _ h => h) (pgen_meth0 (pv 0) m.cls m.m_each_ring (ok_each m) hr m.eb_each_ring .nil) (pg_name (i := 1) sc_first.nd rfl (Or.inl rfl)) (pssg_one (psg_ret (peg_of (pv 1)))))
    (pssg_one (psg_ret (peg_of pe_non))), ?_⟩)
  · obtain ⟨x, l, G, n, rfl, _⟩ := h; rfl
  · obtain ⟨x, l, G, n, rfl, ar, hG, h6, hP, qy, qe⟩ := h
    have ar' := ar
    obtain ⟨a, dx, L, ls, rfl, k1, k2, k3⟩ := ar
    exact ⟨_, rfl, a, dx, _, rfl, k1, rfl, .ref a, l, G, n, rfl, ar', hG, h6, hP, fun v' h' t' H' e tv r lt => ⟨_, rfl, qy v' h' t' H' e tv r lt⟩, fun H' e no => qe H' e no⟩
end
end GG
/-! D13: bound_of, lane_bounds, starving. -/
namespace GG
open PySem
open PySem.Spec
open PyProof.Rows
open L2
open RR
open StX

section
variable {Z : Result → Shared → Prop} {w : World} {K : PySem.W.Frag} {mg : Str → Option Value} {base : Heap}
def spBound : Sp := fun vs H Q _ => ∃ r R n l, vs = [r, nV l] ∧ Tt H r R ∧ Good n R ∧ l < n ∧ ∀ o H', Ext H H' → BoundG (gr R l) o → Q (lastV o) H'
theorem sc_bound : FnScope ["rule", "lane", "arrows", "lanes"] ["rule", "lane"] (defScope (topSt 31)) := ⟨rfl, rfl, rfl, by decide +kernel, rfl, by decide +kernel, by decide +kernel⟩
/-- what an Arrows object gives of its rule -/
theorem gok_facts {R G : List (List Nat)} {n l : Nat} (g : Good n R) (k : GOk l R G) : G.length = n + 1 ∧ (∀ s, ∀ y ∈ rowAt G s, y < n ∧ y ≠ l) ∧ (∀ h t, Ring G h t ↔ Ring (gr R l) h t) ∧ ∀ s c, Chn G s c ↔ Chn (gr R l) s c :=
  ⟨by rw [paired_len k]; exact g.2.2.1, fun s y hy => gr_lt g s y ((gok_row k s y).mp hy), fun h t => ⟨ring_congr fun s y => (gok_row k s y).mp, ring_congr fun s y => (gok_row k s y).mpr⟩, fun s c => ⟨chn_congr fun s y => (gok_row k s y).mp, chn_congr fun s y => (gok_row k s y).mpr⟩⟩
theorem mem_of_rowAt {G : List (List Nat)} {g : List Nat} (h : g ∈ G) : ∃ s, rowAt G s = g := by
  obtain ⟨s, hs, e⟩ := List.mem_iff_getElem.mp h
  exact ⟨s, by unfold rowAt; rw [List.getElem?_eq_getElem hs, e]; rfl⟩
theorem ok_bound (m : Md K mg) : FnG Z PW w K mg base 17 (He.ga K "bound_of") m.d_bound_of ["rule", "lane"] spBound := by
  refine Fun.okG (k := 16) (He5.fun_of m.F_bound_of) sc_bound (fun vs H Q E h => ?_) (fun cdv A outer s H vs Q hr h => ⟨_, pssg_cons (psg_of (ps_expr (pe_call (ok_check_lane m) (hr.mono (by decide)) rfl m.g_check_lane m.F_check_lane.kp m.b_check_lane .nil pass0 (pa_cons (pv 0) (pa_cons (pv 1) pa_nil)))))
    (pssg_cons (psg_of (ps_set (i := 2) sc_bound.nd rfl (Or.inl rfl) (pe_make m.mkr (ok_init m) (hr.mono (by decide)) rfl m.g_Arrows m.eb_init .nil pass0 (pa_cons (pv 0) (pa_cons (pv 1) pa_nil)))))
    (pssg_cons (psg_if (ptg_cmpR op_notN (peg_meth0 (pv 2) m.cls m.m_first_ring (ok_first m) hr m.eb_first_ring .nil) (peg_of pe_non) (nomark _)) (pssg_one (psg_ret (peg_of pe_non))) pssg_nil)
    (pssg_one (psg_ret (peg_of (pe_callB (cr_max rfl) (by rfl) m.n_max (by decide +kernel) (pa_cons (pe_lc (own := [("lanes", 3)]) (g := gName 3) (tt := tYes) rfl sc_bound.nd (pi_list (pe_meth0 (pv 2) m.cls m.m_all_longest (ok_all_longest m 7) (hr.mono (by decide)) m.eb_all_longest .nil pass0)) (blkOk_by (own := [("lanes", 3)]) (N := ["rule", "lane", "arrows", "lanes"]) (sc := defScope (topSt 31)) (by decide +kernel)) (fun _ _ _ _ _ => pg_name (i := 3) sc_bound.nd rfl (Or.inl rfl)) (fun _ _ _ _ _ => pts_nil)
        (te := tCB (fun xs H Q => ∃ p ys, xs = [V.ref p] ∧ (SqL K H p ys ∨ SqT K H p ys) ∧ Q (V.int ys.length) H) (tCons (tVar 3) tNil)) (fun _ _ _ _ _ => pe_callB call_len_seq (by rfl) m.n_len PySem.boot_len (pa_cons (pv 3) pa_nil))) pa_nil)))))))
    , ?_⟩)
  · obtain ⟨r, R, n, l, rfl, _⟩ := h; rfl
  · obtain ⟨r, R, n, l, rfl, tt, g, hl, q⟩ := h
    have tt' := tt
    obtain ⟨a, vs, rfl, ha, hv⟩ := tt
    have lv := paired_len hv
    have gl := g.2.2.1
    have n6 := g.2.1
    refine ⟨_, rfl, _, rfl, a, vs, l, rfl, ha, by omega, ?_⟩
    refine ⟨_, rfl, _, rfl, fun x dx hx hdx nx => ?_⟩
    have e1 : Ext H (L2.upd (L2.upd H dx (.own x)) x (.ins (aCls K) dx [])) := (Ext.upd hdx).put (by rw [upd_ne (Ne.symm nx)]; exact hx)
    refine ⟨x, dx, .ref a, R, l, rfl, upd_same, tt'.ext e1, by omega, fun p hp => ⟨prm_mem (g.2.2.2 p hp) hl, by rw [(g.2.2.2 p hp).1]; omega⟩, fun H2 G keep ar gok => ⟨rfl, ?_⟩⟩
    have e2 : Ext H H2 := fun c o h => keep c o (fun z => by rw [z, hx] at h; cases h) (e1 c o h)
    obtain ⟨hG, hP, hring, hchn⟩ := gok_facts g gok
    have ar' := ar
    obtain ⟨x', dx', L, ls, ex, k1, k2, k3⟩ := ar
    obtain rfl : x = x' := by injection ex
    refine ⟨_, rfl, x, dx', _, rfl, k1, rfl, .ref x, l, G, n, rfl, ar', hG, n6, hP, fun v' h' t' H3 e3 tv r _ => ?_, fun H3 e3 no => ?_⟩
    · obtain ⟨b, rfl, _⟩ := tv
      refine ⟨rfl, _, rfl, ?_⟩
      show if (!decide (V.ref b = V.non)) = true then _ else _
      rw [decide_eq_false (fun z => by cases z)]
      exact iteT (q none H3 (e2.trans e3) ⟨h', t', (hring h' t').mp r⟩)
    · refine ⟨rfl, _, rfl, ?_⟩
      show if (!decide (V.non = V.non)) = true then _ else _
      rw [decide_eq_true rfl]
      have hlt : ∀ s c, Chn G s c → c.length < 7 := fun s c h => by
        have := chn_le (fun s y hy => (hP s y hy).1) no h
        omega
      refine iteF ⟨_, rfl, x, dx', _, rfl, e3 _ _ k1, rfl, .ref x, l, G, rfl, ar'.ext e3, by omega, fun gg hgg y hy => ?_, fun s _ c h => hlt s c h, by decide, fun D vs' F H4 e4 hD hF lg => ?_⟩
      · obtain ⟨s, rfl⟩ := mem_of_rowAt hgg
        have := (hP s y hy).1
        omega
      have lF := paired_len hF
      have lF2 := lg.1
      refine ⟨D, rfl, ⟨_, SqL.of hD⟩, fun D2 new => lc_list (K := K) (xs := vs') (LcP H4 D2 fun i acc _ => acc = nVs ((F.take i).map List.length)) (LcP.start new rfl) (fun i H5 _ p => SqL.of (p.1 _ _ hD)) (fun i y H5 hy p => ?_) fun H5 p => ?_⟩
      · obtain ⟨e5, acc, hD2, hacc, hp⟩ := p
        obtain ⟨f, hf, b, rfl, hb⟩ := paired_getL i y hF hy
        have hi := get_len hf
        refine ⟨wipe_one _ 3 _, yesT ⟨_, rfl, b, _, rfl, .inr (.inl (ta_ext hb e5)), ?_⟩⟩
        refine LcP.put new e5 hD2 hacc (by omega) Ext.rfl ?_
        rw [hp, List.take_add_one, hf, List.map_append, nVs_app, nVs_len]; rfl
      · obtain ⟨e5, acc, hD2, hacc, hp⟩ := p
        rw [lF, List.take_length] at hp
        subst hp
        refine ⟨D2, (F.map List.length).map fun n : Nat => (n : Int), rfl, SqL.of (by rw [hD2, nVs_int]), by rw [List.length_map, List.length_map]; omega, fun mm hm hmax => ?_⟩
        obtain ⟨b, hb, rfl⟩ := List.mem_map.mp hm
        obtain ⟨f, hf, rfl⟩ := List.mem_map.mp hb
        refine q (some f.length) H5 (((e2.trans e3).trans e4).trans e5) ⟨fun ⟨h, t, r⟩ => no ⟨h, t, (hring h t).mpr r⟩, fun s hs c hc => ?_, ?_⟩
        · rw [gr_len] at hs
          have hs2 : s < F.length := by omega
          obtain ⟨_, mx⟩ := lg.2 s F[s] (List.getElem?_eq_getElem hs2)
          have h1 := mx c ((hchn s c).mpr hc)
          have h2 := hmax (F[s].length : Int) (List.mem_map.mpr ⟨_, List.mem_map.mpr ⟨_, List.getElem_mem hs2, rfl⟩, rfl⟩)
          omega
        · obtain ⟨s, hs, ef⟩ := List.mem_iff_getElem.mp hf
          obtain ⟨cf, _⟩ := lg.2 s f (by rw [List.getElem?_eq_getElem hs, ef])
          exact ⟨s, by rw [gr_len]; omega, f, (hchn s f).mp cf, rfl⟩
/-! ### lane_bounds -/
/-- the bounds of a rule's lanes -/
def Bnds (R : List (List Nat)) (n : Nat) (bs : List (Option Nat)) : Prop := bs.length = n ∧ ∀ l o, bs[l]? = some o → BoundG (gr R l) o
def spLaneB : Sp := fun vs H Q _ => ∃ r R n, vs = [r] ∧ Tt H r R ∧ Good n R ∧ ∀ v bs H', Ext H H' → Tp H' v (bs.map lastV) → Bnds R n bs → Q v H'
theorem sc_laneB : FnScope ["rule", "lane"] ["rule"] (defScope (topSt 32)) := ⟨rfl, rfl, rfl, by decide +kernel, rfl, by decide +kernel, by decide +kernel⟩
theorem ok_laneB (m : Md K mg) : FnG Z PW w K mg base 18 (He.ga K "lane_bounds") m.d_lane_bounds ["rule"] spLaneB := by
  refine Fun.okG (k := 17) (He5.fun_of m.F_lane_bounds) sc_laneB (fun vs H Q E h => ?_) (fun cdv A outer s H vs Q hr h => ⟨_, pssg_one (psg_ret (peg_tupleOf (by rfl) m.n_tuple (peg_lc (own := [("lane", 1)]) (g := gName 1) (tt := tYes) (te := tCall spBound [] E0 (tCons (tVar 0) (tCons (tVar 1) tNil))) rfl sc_laneB.nd (pig_range1 (by rfl) m.n_range (pa_cons (pe_op op_sub (pe_callB call_len_seq (by rfl) m.n_len PySem.boot_len (pa_cons (pv 0) pa_nil)) pe_int) pa_nil))
      (blkOk_by (own := [("lane", 1)]) (N := ["rule", "lane"]) (sc := defScope (topSt 32)) (by decide +kernel)) (fun _ _ _ _ _ => pg_name (i := 1) sc_laneB.nd rfl (Or.inl rfl)) (fun _ _ _ _ _ => pts_nil)
      (fun _ _ _ _ _ => peg_call (ok_bound m) hr rfl m.g_bound_of m.F_bound_of.kp m.b_bound_of .nil (pa_cons (pv 0) (pa_cons (pv 1) pa_nil)))))), ?_⟩)
  · obtain ⟨r, R, n, rfl, _⟩ := h; rfl
  · obtain ⟨r, R, n, rfl, tt, g, q⟩ := h
    have tt' := tt
    obtain ⟨a, vs, rfl, ha, hv⟩ := tt
    have lv := paired_len hv
    have gl := g.2.2.1
    have n6 := g.2.1
    refine ⟨_, rfl, _, _, rfl, .inr (.inl ha), _, _, rfl, rfl, (n : Int), congrArg (fun z => [V.int z]) (show (vs.length : Int) - 1 = (n : Int) by omega), by omega, by omega, fun D new => ?_⟩
    have en : ((n : Nat) : Int).toNat = n := rfl
    rw [en]
    refine lc_range (lo := 0) (n := n) (LcP H D fun i acc _ => ∃ bs : List (Option Nat), acc = bs.map lastV ∧ bs.length = i ∧ ∀ l o, bs[l]? = some o → BoundG (gr R l) o) (LcP.start new ⟨[], rfl, rfl, fun l o h => by simp at h⟩) (fun i H2 hi p => ?_) fun H2 p => ?_
    · obtain ⟨e2, acc, hD, hacc, bs, rfl, lb, hbs⟩ := p
      refine ⟨wipe_one _ 1 _, yesT ⟨_, rfl, _, rfl, .ref a, R, n, i, congrArg (fun z => [V.ref a, V.int z]) (Int.zero_add _), tt'.ext e2, g, hi, fun o H3 e3 bo => ?_⟩⟩
      refine LcP.put new e2 hD hacc (by omega) e3 ⟨bs ++ [o], by rw [List.map_append]; rfl, by rw [List.length_append, lb]; rfl, fun l o' h => ?_⟩
      by_cases hlb : l < bs.length
      · rw [List.getElem?_append_left hlb] at h
        exact hbs l o' h
      · rw [List.getElem?_append_right (by omega)] at h
        have := get_len h
        obtain rfl : l = i := by simp only [List.length_cons, List.length_nil] at this; omega
        rw [lb, Nat.sub_self] at h
        have eo : o = o' := Option.some.inj h
        exact eo ▸ bo
    · obtain ⟨e2, acc, hD, hacc, bs, rfl, lb, hbs⟩ := p
      exact .inl ⟨D, _, rfl, SqL.of hD, fun t ht => q _ bs _ (e2.put ht) ⟨t, rfl, .inl upd_same⟩ ⟨lb, hbs⟩⟩
/-! ### starving -/
theorem lc_enumT {K : PySem.W.Frag} {a : Addr} {xs : List V} {g : TG} {tt : TT} {te : TE} {vs : List Nat} {σ : L2.St} {H1 : Hp} {D : Addr} {Qd : Hp → Prop} (Pv : Nat → Hp → Prop) (h0 : Pv 0 (L2.upd H1 D (.lst []))) (hl : ∀ i H, i ≤ xs.length → Pv i H → SqT K H a xs)
    (hs : ∀ i y T H, xs[i]? = some y → Pv i H → H T = none → g (.ref T) (wipe σ vs) (L2.upd H T (.tup [.int (i : Nat), y])) fun σ2 H2 => wipe σ2 vs = wipe σ vs ∧ tt σ2 H2 fun b H3 =>
      if b = true then te σ2 H3 fun y H4 => ∃ acc, H4 D = some (.lst acc) ∧ acc.length < sizeLine ∧ Pv (i + 1) (L2.upd H4 D (.lst (acc ++ [y]))) else Pv (i + 1) H3) (hd : ∀ H, Pv xs.length H → Qd H) :
    ∃ W : Nat → Nat → Hp → Prop, (∃ m, W 0 m (L2.upd H1 D (.lst []))) ∧ ∀ i m H, W i m H →
      ((IteT K a).stop i H ∧ Qd H) ∨ ((IteT K a).go i H ∧ ∃ Nx : Hp → Prop, (∀ H', Nx H' → ∃ m', m' < m ∧ W (i + 1) m' H') ∧ ∀ x H', (IteT K a).yld i H x H' → g x (wipe σ vs) H' fun σ2 H2 => wipe σ2 vs = wipe σ vs ∧ tt σ2 H2 fun b H3 =>
        if b = true then te σ2 H3 fun y H4 => ∃ acc, H4 D = some (.lst acc) ∧ acc.length < sizeLine ∧ Nx (L2.upd H4 D (.lst (acc ++ [y]))) else Nx H3) := by
  refine ⟨fun i m H => m = xs.length - i ∧ i ≤ xs.length ∧ Pv i H, ⟨xs.length, by simp, Nat.zero_le _, h0⟩, ?_⟩
  rintro i m H ⟨rfl, hi, p⟩
  have q := hl i H hi p
  by_cases hlt : i < xs.length
  · refine .inr ⟨⟨xs, q, hlt⟩, Pv (i + 1), fun H' p' => ⟨xs.length - (i + 1), by omega, rfl, hlt, p'⟩, fun x H' y => ?_⟩
    obtain ⟨T, y, rfl, hT, rfl, hy⟩ := y
    exact hs i y T H (hy xs q) p hT
  · obtain rfl : i = xs.length := by omega
    exact .inl ⟨⟨xs, q, rfl⟩, hd H p⟩
/-- the lanes without a bound -/
def noneAt (bs : List (Option Nat)) : List Nat := (List.range bs.length).filter fun l => (bs[l]?).getD (some 0) == none
def spStarv : Sp := fun vs H Q _ => ∃ r R n, vs = [r] ∧ Tt H r R ∧ Good n R ∧ ∀ v bs H', Ext H H' → Bnds R n bs → Tn H' v (noneAt bs) → Q v H'
theorem sc_starv : FnScope ["rule", "lane", "bound"] ["rule"] (defScope (topSt 33)) := ⟨rfl, rfl, rfl, by decide +kernel, rfl, by decide +kernel, by decide +kernel⟩
theorem ok_starv (m : Md K mg) : FnG Z PW w K mg base 19 (He.ga K "starving") m.d_starving ["rule"] spStarv := by
  refine Fun.okG (k := 18) (He5.fun_of m.F_starving) sc_starv (fun vs H Q E h => ?_) (fun cdv A outer s H vs Q hr h => ⟨_, pssg_one (psg_ret (peg_tupleOf (by rfl) m.n_tuple (peg_lc (own := [("lane", 1), ("bound", 2)]) (g := gTup K 2 (gCons (gName 1) (gCons (gName 2) gNil))) rfl sc_starv.nd (pig_enumT (by rfl) m.n_enumerate (peg_call (ok_laneB m) hr rfl m.g_lane_bounds m.F_lane_bounds.kp m.b_lane_bounds .nil (pa_cons (pv 0) pa_nil)))
      (blkOk_by (own := [("lane", 1), ("bound", 2)]) (N := ["rule", "lane", "bound"]) (sc := defScope (topSt 33)) (by decide +kernel)) (fun _ _ _ _ _ => pg_tup rfl (pgs_cons (pg_name (i := 1) sc_starv.nd rfl (Or.inl rfl)) (pgs_cons (pg_name (i := 2) sc_starv.nd rfl (Or.inl rfl)) pgs_nil))) (fun _ _ _ _ _ => pts_one (pt_cmpR op_isN (pv 2) pe_non (nomark _)))
      (fun _ _ _ _ _ => peg_of (pv 1))))), ?_⟩)
  · obtain ⟨r, R, n, rfl, _⟩ := h; rfl
  · obtain ⟨r, R, n, rfl, tt, g, q⟩ := h
    have n6 := g.2.1
    refine ⟨_, rfl, r, R, n, rfl, tt, g, fun v bs H1 e1 ⟨b, hb1, hb⟩ bb => ?_⟩
    subst hb1
    have lb := bb.1
    refine ⟨b, _, rfl, .inl hb, fun D new => lc_enumT (K := K) (xs := bs.map lastV) (LcP H1 D fun i acc _ => acc = nVs ((List.range i).filter fun l => (bs[l]?).getD (some 0) == none)) (LcP.start new rfl) (fun i H2 _ p => .inl (ta_ext hb p.1)) (fun i y T H2 hy p hT => ?_) fun H2 p => ?_⟩
    · obtain ⟨e2, acc, hD, hacc, hp⟩ := p
      obtain ⟨o, ho, rfl⟩ : ∃ o, bs[i]? = some o ∧ y = lastV o := by
        rw [List.getElem?_map] at hy
        cases hb : bs[i]? with
        | none => rw [hb] at hy; cases hy
        | some o => rw [hb] at hy; exact ⟨o, rfl, (Option.some.inj hy).symm⟩
      have hi := get_len ho
      refine ⟨T, _, rfl, SqT.of upd_same, rfl, _, _, rfl, _, _, rfl, rfl, rfl, _, rfl, rfl, _, rfl, ?_⟩
      show if decide (lastV o = V.non) = true then _ else _
      rw [lastV_none]
      have e3 : Ext H2 (L2.upd H2 T (.tup [.int (i : Nat), lastV o])) := Ext.upd hT
      have fl : (List.range (i + 1)).filter (fun l => (bs[l]?).getD (some 0) == none) = (List.range i).filter (fun l => (bs[l]?).getD (some 0) == none) ++ (if o.isNone then [i] else []) := by
        rw [List.range_succ, List.filter_append]
        congr 1
        rw [List.filter_cons, ho]
        cases o <;> rfl
      cases o with
      | none => exact iteT ⟨_, rfl, LcP.put new e2 hD hacc (by omega) e3 (by rw [fl, hp, nVs_app]; rfl)⟩
      | some k => exact iteF (LcP.skip e2 hD hacc e3 (by rw [fl, hp]; simp))
    · obtain ⟨e2, acc, hD, hacc, hp⟩ := p
      rw [List.length_map] at hp
      exact .inl ⟨D, _, rfl, SqL.of hD, fun t ht => q _ bs _ ((e1.trans e2).put ht) bb ⟨t, rfl, .inl (by rw [upd_same, hp]; rfl)⟩⟩
end
end GG
/-! D14: long_run. -/
namespace GG
open PySem
open PySem.Spec
open PyProof.Rows
open L2
open RR
open StX

theorem for_enumL {K : PySem.W.Frag} {a : Addr} {xs : List V} {g : TG} {tb : TS} {D : Ends} {σ : L2.St} {H : Hp} (Pv : Nat → L2.St → Hp → Prop) (h0 : Pv 0 σ H) (hl : ∀ i σ H, Pv i σ H → SqL K H a xs)
    (hs : ∀ i σ H T y, xs[i]? = some y → Pv i σ H → H T = none → g (.ref T) σ (L2.upd H T (.tup [.int (i : Nat), y])) fun σ2 H2 => tb { D with nx := Pv (i + 1), ct := Pv (i + 1), bk := D.nx } σ2 H2) (hd : ∀ σ H, Pv xs.length σ H → D.nx σ H) :
    ∃ W : Nat → Nat → L2.St → Hp → Prop, (∃ m, W 0 m σ H) ∧ ∀ i m σ H, W i m σ H →
      ((Ite K a).stop i H ∧ D.nx σ H) ∨ ((Ite K a).go i H ∧ ∃ N : L2.St → Hp → Prop, (∀ σ' H', N σ' H' → ∃ m', m' < m ∧ W (i + 1) m' σ' H') ∧ ∀ x H', (Ite K a).yld i H x H' → g x σ H' fun σ2 H2 => tb { D with nx := N, ct := N, bk := D.nx } σ2 H2) := by
  refine ⟨fun i m σ H => m = xs.length - i ∧ i ≤ xs.length ∧ Pv i σ H, ⟨_, rfl, Nat.zero_le _, h0⟩, ?_⟩
  rintro i m σ H ⟨rfl, hi, p⟩
  have q := hl i σ H p
  by_cases lt : i < xs.length
  · refine .inr ⟨⟨xs, xs[i], q, List.getElem?_eq_getElem lt⟩, Pv (i + 1), fun σ' H' p' => ⟨xs.length - (i + 1), by omega, rfl, lt, p'⟩, fun v H' ⟨T, y, e1, e2, e3, e4⟩ => ?_⟩
    subst e1 e3
    exact hs i σ H T y (e4 xs q) p e2
  · obtain rfl : i = xs.length := by omega
    exact .inl ⟨⟨xs, q, Nat.le_refl _⟩, hd σ H p⟩
/-- a path walked m times -/
def cyc (p : List Nat) (m : Nat) : List Nat := (List.replicate m p).flatten
theorem cyc_succ (p : List Nat) (m : Nat) : cyc p (m + 1) = p ++ cyc p m := by unfold cyc; rw [List.replicate_succ, List.flatten_cons]
theorem cyc_len (p : List Nat) : ∀ m, (cyc p m).length = m * p.length
  | 0 => by simp [cyc]
  | m + 1 => by rw [cyc_succ, List.length_append, cyc_len p m, Nat.succ_mul, Nat.add_comm]
theorem chn_cyc {G : List (List Nat)} {h : Nat} {t : List Nat} (r : Ring G h t) : ∀ m, Chn G (endOf (1 + h) t) (cyc (h :: t) m)
  | 0 => trivial
  | m + 1 => by
    rw [cyc_succ]
    exact chn_app.mpr ⟨⟨r.2, r.1⟩, chn_cyc r m⟩
theorem chn_take {G : List (List Nat)} {s : Nat} {c : List Nat} (k : Nat) (h : Chn G s c) : Chn G s (c.take k) := by
  rw [← List.take_append_drop k c] at h
  exact (chn_app.mp h).1
theorem nVs_cyc (p : List Nat) (m : Nat) : (List.replicate m (nVs p)).flatten = nVs (cyc p m) := by
  induction m with
  | zero => rfl
  | succ m ih => rw [cyc_succ, nVs_app, List.replicate_succ, List.flatten_cons, ih]
theorem last_drop (h : Nat) (t : List Nat) : (h :: t).drop t.length = [(h :: t).getLast (by simp)] := by
  induction t generalizing h with
  | nil => rfl
  | cons y r ih =>
    rw [List.getLast_cons (by simp)]
    exact ih y
/-- the last of a path, then count lanes round it -/
theorem cyc_cut {h count : Nat} {t : List Nat} {m : Nat} : ((cyc (h :: t) (m + 1)).drop t.length).take (count + 1) = (h :: t).getLast (by simp) :: (cyc (h :: t) m).take count := by
  rw [cyc_succ, List.drop_append_of_le_length (by simp)]
  rw [last_drop]
  rfl
section
variable {Z : Result → Shared → Prop} {w : World} {K : PySem.W.Frag} {mg : Str → Option Value} {base : Heap}
def spLongRun (K : PySem.W.Frag) : Sp := fun vs H Q _ => ∃ x l G n count, vs = [x, nV count] ∧ Arr K H x l G ∧ G.length = n + 1 ∧ n ≤ 6 ∧ (∀ s, ∀ y ∈ rowAt G s, y < n ∧ y ≠ l) ∧ count ≤ 38 ∧
  (∀ v o c H', Ext H H' → Tp H' v (lastV o :: nVs c) → spot o < n + 1 → Chn G (spot o) c → c.length = count → Q v H') ∧ ∀ H', Ext H H' → (¬ ∃ h t, Ring G h t) → (∀ s, s < n + 1 → ∀ c, Chn G s c → c.length < count) → Q .non H'
theorem sc_longRun : FnScope ["arrows", "count", "ring", "lanes", "spot"] ["arrows", "count"] (defScope (topSt 37)) := ⟨rfl, rfl, rfl, by decide +kernel, rfl, by decide +kernel, by decide +kernel⟩
theorem ok_longRun (m : Md K mg) : FnG Z PW w K mg base 17 (He.ga K "long_run") m.d_long_run ["arrows", "count"] (spLongRun K) := by
  refine Fun.okG (k := 16) (He5.fun_of m.F_long_run) sc_longRun (fun vs H Q E h => ?_) (fun cdv A outer s H vs Q hr h => ⟨_, pssg_cons (psg_set (i := 2) sc_longRun.nd rfl (Or.inl rfl) (peg_meth0 (pv 0) m.cls m.m_first_ring (ok_first m) hr m.eb_first_ring .nil))
    (pssg_cons (psg_if (ptg_of (pt_cmpR op_notN (pv 2) pe_non (nomark _))) (pssg_of (pss_cons (ps_set (i := 3) sc_longRun.nd rfl (Or.inl rfl) (pe_op op_repA (pv 2) (pe_op op_add (pe_op op_fdiv (pv 1) (pe_callB call_len_seq (by rfl) m.n_len PySem.boot_len (pa_cons (pv 2) pa_nil))) pe_int)))
      (pss_one (ps_ret (pe_slice sl_tupA (pv 3) (po_some (pe_op op_sub (pe_callB call_len_seq (by rfl) m.n_len PySem.boot_len (pa_cons (pv 2) pa_nil)) pe_int)) (po_some (pe_op op_add (pe_callB call_len_seq (by rfl) m.n_len PySem.boot_len (pa_cons (pv 2) pa_nil)) (pv 1)))))))) pssg_nil)
    (pssg_cons (psg_of (ps_for PassesOwn.never rfl (pi_enum (by rfl) m.n_enumerate (pa_cons (pe_meth0 (pv 0) m.cls m.m_all_longest (ok_all_longest m 7) (hr.mono (by decide)) m.eb_all_longest .nil pass0) pa_nil)) (pg_tup rfl (pgs_cons (pg_name (i := 4) sc_longRun.nd rfl (Or.inl rfl)) (pgs_cons (pg_name (i := 3) sc_longRun.nd rfl (Or.inl rfl)) pgs_nil)))
        (pss_one (ps_if (pt_cmpR op_ge (pe_callB call_len_seq (by rfl) m.n_len PySem.boot_len (pa_cons (pv 3) pa_nil)) (pv 1) (nomark _)) (pss_one (ps_ret (pe_tup (pa_cons (pe_ifExp (pt_cmpR op_eq (pv 4) pe_int (nomark _)) pe_non (pe_op op_sub (pv 4) pe_int)) (pa_star (pe_slice sl_tupA (pv 3) po_none (po_some (pv 1))) pa_nil))))) pss_nil))))
    (pssg_one (psg_ret (peg_of pe_non))))), ?_⟩)
  · obtain ⟨x, l, G, n, count, rfl, _⟩ := h; rfl
  · obtain ⟨x, l, G, n, count, rfl, ar, hG, n6, hP, c38, qy, qn⟩ := h
    have ar' := ar
    obtain ⟨a, dx, L, ls, rfl, k1, k2, k3⟩ := ar
    refine ⟨_, rfl, a, dx, _, rfl, k1, rfl, .ref a, l, G, n, rfl, ar', hG, n6, hP, fun v' h' t' H3 e3 tv r lt => ?_, fun H3 e3 no => ?_⟩
    · obtain ⟨b, rfl, hb⟩ := tv
      refine ⟨_, rfl, rfl, _, rfl, ?_⟩
      show if (!decide (V.ref b = V.non)) = true then _ else _
      rw [decide_eq_false (fun z => by cases z)]
      have L1 : (nVs (h' :: t')).length = t'.length + 1 := by rw [nVs_len]; rfl
      obtain ⟨M, hM⟩ : ∃ M, count / (t'.length + 1) = M := ⟨_, rfl⟩
      have kle : M ≤ count := hM ▸ Nat.div_le_self _ _
      have ek : (count : Int) / ((nVs (h' :: t')).length : Int) + 2 = ((M + 1 + 1 : Nat) : Int) := by rw [L1, cast_div, hM]; omega
      refine iteT ⟨_, rfl, _, rfl, _, rfl, b, _, rfl, .inr (.inl hb), _, _, rfl, rfl, ⟨by omega, by omega⟩, _, _, rfl, rfl, b, _, _, rfl, rfl, .inl hb, (by simp), by rw [ek]; omega, by rw [ek]; omega, by omega, fun z => by rw [ek] at z; omega, fun _ p hp => ?_⟩
      have eT : (List.replicate ((count : Int) / ((nVs (h' :: t')).length : Int) + 2).toNat (nVs (h' :: t'))).flatten = nVs (cyc (h' :: t') (M + 1 + 1)) := by rw [ek, Int.toNat_natCast, nVs_cyc]
      have hT : Ta (L2.upd H3 p (.tup (List.replicate ((count : Int) / ((nVs (h' :: t')).length : Int) + 2).toNat (nVs (h' :: t'))).flatten)) p (nVs (cyc (h' :: t') (M + 1 + 1))) := .inl (by rw [upd_same, eT])
      have e4 : Ext H3 (L2.upd H3 p (.tup (List.replicate ((count : Int) / ((nVs (h' :: t')).length : Int) + 2).toNat (nVs (h' :: t'))).flatten)) := Ext.upd hp
      generalize L2.upd H3 p (.tup (List.replicate ((count : Int) / ((nVs (h' :: t')).length : Int) + 2).toNat (nVs (h' :: t'))).flatten) = H4 at hT e4
      have hb4 := ta_ext hb e4
      refine ⟨_, rfl, _, rfl, b, _, rfl, .inr (.inl hb4), _, _, rfl, rfl, _, rfl, _, rfl, b, _, rfl, .inr (.inl hb4), _, rfl, _, _, rfl, rfl, _, rfl, sl_any hT fun v1 H5 e5 ⟨b1, h1b, hb1⟩ => ?_⟩
      subst h1b
      have dm := Nat.div_add_mod count (t'.length + 1)
      rw [hM] at dm
      have ml := Nat.mod_lt count (show 0 < t'.length + 1 by omega)
      have cl : count < (M + 1) * (t'.length + 1) := by
        rw [Nat.succ_mul, Nat.mul_comm]; omega
      have cl2 : t'.length + 1 + count ≤ (M + 1 + 1) * (t'.length + 1) := by
        rw [Nat.succ_mul]; omega
      have lc : (nVs (cyc (h' :: t') (M + 1 + 1))).length = (M + 1 + 1) * (t'.length + 1) := by rw [nVs_len, cyc_len]; rfl
      rw [show ((nVs (h' :: t')).length : Int) - 1 = ((t'.length : Nat) : Int) by omega, show ((nVs (h' :: t')).length : Int) + (count : Int) = ((t'.length + 1 + count : Nat) : Int) by omega, cut_mid _ _ _ (by rw [lc]; exact cl2) (by omega)] at hb1
      rw [show t'.length + 1 + count - t'.length = count + 1 by omega, nVs_drop, nVs_take, cyc_cut] at hb1
      have eS : spot (some ((h' :: t').getLast (by simp))) = endOf (1 + h') t' := by
        rw [← last_spot]
        exact Nat.add_comm _ _
      refine qy _ (some ((h' :: t').getLast (by simp))) ((cyc (h' :: t') (M + 1)).take count) H5 ((e3.trans e4).trans e5) ⟨b1, rfl, hb1⟩ ?_ ?_ ?_
      · rw [eS]; exact end_lt (fun s y hy => (hP s y hy).1) (by have := (hP _ _ r.2).1; omega) r.1
      · rw [eS]; exact chn_take _ (chn_cyc r _)
      · rw [List.length_take, cyc_len]
        show min count ((M + 1) * (t'.length + 1)) = count
        omega
    · refine ⟨_, rfl, rfl, _, rfl, ?_⟩
      show if (!decide (V.non = V.non)) = true then _ else _
      rw [decide_eq_true rfl]
      have hlt : ∀ s c, Chn G s c → c.length < 7 := fun s c h => by
        have := chn_le (fun s y hy => (hP s y hy).1) no h
        omega
      refine iteF ⟨_, rfl, a, dx, _, rfl, e3 _ _ k1, rfl, .ref a, l, G, rfl, ar'.ext e3, by omega, fun gg hgg y hy => ?_, fun s _ c h => hlt s c h, by decide, fun D vs' F H4 e4 hD hF lg => ?_⟩
      · obtain ⟨s, rfl⟩ := mem_of_rowAt hgg
        have := (hP s y hy).1
        omega
      have lF := paired_len hF
      have lF2 := lg.1
      refine ⟨D, vs', rfl, SqL.of hD, for_enumL (xs := vs') (fun i σ' H' => Ext H4 H' ∧ (∀ s, s < i → ∀ c, Chn G s c → c.length < count) ∧ ∃ x3 x4, σ' = [some (V.ref a), some (nV count), some V.non, x3, x4]) ⟨Ext.rfl, fun s hs => by omega, _, _, rfl⟩ (fun i σ' H' p => SqL.of (p.1 _ _ hD)) (fun i σ' H' T y hy p hT => ?_) fun σ' H' p => ?_⟩
      · obtain ⟨e5, hdone, x3, x4, rfl⟩ := p
        obtain ⟨f, hf, b, rfl, hb⟩ := paired_getL i y hF hy
        have hi := get_len hf
        obtain ⟨cf, mf⟩ := lg.2 i f hf
        have lf7 := hlt i f cf
        have e6 : Ext H4 (L2.upd H' T (.tup [.int (i : Nat), V.ref b])) := e5.put hT
        refine ⟨T, _, rfl, SqT.of upd_same, rfl, _, _, rfl, _, _, rfl, rfl, _, rfl, b, _, rfl, .inr (.inl (ta_ext hb e6)), _, rfl, _, _, rfl, rfl, _, rfl, ?_⟩
        show if decide ((count : Int) ≤ ((nVs f).length : Int)) = true then _ else _
        rw [nVs_len]
        by_cases hc : (count : Int) ≤ (f.length : Int)
        · rw [decide_eq_true hc]
          refine iteT ⟨_, rfl, rfl, _, rfl, ?_⟩
          show if decide (V.int (i : Int) = V.int 0) = true then _ else _
          have lt : (f.take count).length = count := by rw [List.length_take]; omega
          by_cases hi0 : i = 0
          · subst hi0
            rw [show decide (V.int ((0 : Nat) : Int) = V.int 0) = true from rfl]
            exact iteT ⟨_, rfl, _, rfl, _, rfl, sl_any (ta_ext hb e6) fun v1 H6 e7 ⟨b1, h1b, hb1⟩ => by
              subst h1b
              rw [cut_to _ _ (by rw [nVs_len]; omega), nVs_take] at hb1
              refine ⟨b1, _, rfl, .inl (.inl hb1), by rw [List.append_nil, List.length_cons, nVs_len, List.length_take, sizeLine_eq]; omega, fun t ht => qy _ (none) (f.take count) _ (((e3.trans e4).trans (e6.trans e7)).put ht) ⟨t, rfl, .inl (by rw [upd_same, List.append_nil]; rfl)⟩ (by show 0 < n + 1; omega) (chn_take _ cf) lt⟩⟩
          · rw [decide_eq_false (fun z => hi0 (by injection z with z; omega))]
            have es : spot (some (i - 1)) = i := by show i - 1 + 1 = i; omega
            refine iteF ⟨_, rfl, _, _, rfl, rfl, ?_⟩
            have ei : (i : Int) - 1 = ((i - 1 : Nat) : Int) := by omega
            dsimp only
            rw [ei]
            exact ⟨_, rfl, _, rfl, _, rfl, sl_any (ta_ext hb e6) fun v1 H6 e7 ⟨b1, h1b, hb1⟩ => by
              subst h1b
              rw [cut_to _ _ (by rw [nVs_len]; omega), nVs_take] at hb1
              refine ⟨b1, _, rfl, .inl (.inl hb1), by rw [List.append_nil, List.length_cons, nVs_len, List.length_take, sizeLine_eq]; omega, fun t ht => qy _ (some (i - 1)) (f.take count) _ (((e3.trans e4).trans (e6.trans e7)).put ht) ⟨t, rfl, .inl (by rw [upd_same, List.append_nil]; rfl)⟩ (by rw [es]; omega) (by rw [es]; exact chn_take _ cf) lt⟩⟩
        · rw [decide_eq_false hc]
          refine iteF ⟨e6, fun s hs c h => ?_, _, _, rfl⟩
          by_cases z : s = i
          · subst z
            have := mf c h
            omega
          · exact hdone s (by omega) c h
      · obtain ⟨e5, hdone, x3, x4, rfl⟩ := p
        exact qn H' ((e3.trans e4).trans e5) no fun s hs => hdone s (by omega)
end
end GG
/-! M2: the days in plain Lean: how often a car is passed over. -/
namespace GG

theorem inc_get (l : List Nat) (k j : Nat) (hj : j < l.length) : (inc l k).getD j 0 = l.getD j 0 + (if k = j then 1 else 0) := by
  unfold inc
  rw [List.getD_eq_getElem?_getD, List.getElem?_set]
  by_cases h : k = j
  · subst h
    rw [if_pos rfl, if_pos rfl, if_pos hj]
    rfl
  · rw [if_neg h, if_neg h, List.getD_eq_getElem?_getD]; rfl
theorem incs_len (w : List Nat) : ∀ l : List Nat, (w.foldl inc l).length = l.length := by
  induction w with
  | nil => intro l; rfl
  | cons x w ih => intro l; rw [List.foldl_cons, ih, inc_len]
theorem incs_get (w : List Nat) (j : Nat) : ∀ l : List Nat, j < l.length → l.getD j 0 + (if w.contains j then 1 else 0) ≤ (w.foldl inc l).getD j 0 := by
  induction w with
  | nil => intro l _; simp
  | cons x w ih =>
    intro l hj
    rw [List.foldl_cons]
    have h1 := ih (inc l x) (by rw [inc_len]; exact hj)
    rw [inc_get _ _ _ hj] at h1
    rw [List.contains_cons]
    by_cases hx : x = j
    · rw [if_pos hx] at h1
      subst hx
      rw [beq_self_eq_true, Bool.true_or, if_pos rfl]
      omega
    · rw [if_neg hx] at h1
      have e : (j == x) = false := beq_eq_false_iff_ne.mpr fun z => hx z.symm
      rw [e, Bool.false_or]
      omega
/-- the first of its lane in w, its lane not seen -/
theorem over_fold (row : List Nat) (j : Nat) : ∀ (w seen l : List Nat), j < l.length → (w.foldl (overOne row) (seen, l)).2.length = l.length ∧
    (w.foldl (overOne row) (seen, l)).2.getD j 0 = l.getD j 0 + (if seen.contains (laneOf row j) = false ∧ (w.find? fun i => laneOf row i == laneOf row j) = some j then 1 else 0)
  | [], seen, l, _ => ⟨rfl, by simp⟩
  | x :: w, seen, l, hj => by
    rw [List.foldl_cons]
    unfold overOne
    by_cases hs : seen.contains (laneOf row x) = true
    · rw [if_pos hs]
      obtain ⟨h1, h2⟩ := over_fold row j w seen l hj
      refine ⟨h1, h2.trans ?_⟩
      rw [List.find?_cons]
      cases e : laneOf row x == laneOf row j with
      | true =>
        have e2 := eq_of_beq e
        rw [if_neg (by rw [← e2, hs]; simp), if_neg (by rw [← e2, hs]; simp)]
      | false => rfl
    · rw [if_neg hs]
      have hs2 : seen.contains (laneOf row x) = false := by simpa using hs
      obtain ⟨h1, h2⟩ := over_fold row j w (seen ++ [laneOf row x]) (inc l x) (by rw [inc_len]; exact hj)
      refine ⟨h1.trans (inc_len _ _), h2.trans ?_⟩
      rw [inc_get _ _ _ hj, List.find?_cons]
      cases e : laneOf row x == laneOf row j with
      | true =>
        have e2 := eq_of_beq e
        rw [if_neg (show ¬ ((seen ++ [laneOf row x]).contains (laneOf row j) = false ∧ _) by rw [← e2]; simp)]
        rw [← e2, hs2]
        simp
      | false =>
        have ne : laneOf row x ≠ laneOf row j := beq_eq_false_iff_ne.mp e
        have nx : x ≠ j := fun z => ne (by rw [z])
        rw [if_neg nx]
        have e3 : (seen ++ [laneOf row x]).contains (laneOf row j) = seen.contains (laneOf row j) := by
          rw [List.contains_eq_any_beq, List.contains_eq_any_beq, List.any_append]
          have : (laneOf row j == laneOf row x) = false := beq_eq_false_iff_ne.mpr fun z => ne z.symm
          simp [this]
        rw [e3]
        show l.getD j 0 + 0 + _ = l.getD j 0 + (if seen.contains (laneOf row j) = false ∧ (w.find? fun i => laneOf row i == laneOf row j) = some j then 1 else 0)
        rw [Nat.add_zero]
/-- passed over at most as often as it waits -/
theorem over_le_waits (row : List Nat) : ∀ (its : List Item) (lo lw : List Nat), lo.length = lw.length → (∀ j, j < lo.length → lo.getD j 0 ≤ lw.getD j 0) →
    (overM row lo its).length = lo.length ∧ (waitsM lw its).length = lw.length ∧ ∀ j, j < lo.length → (overM row lo its).getD j 0 ≤ (waitsM lw its).getD j 0
  | [], lo, lw, _, h => ⟨rfl, rfl, h⟩
  | i :: r, lo, lw, hl, h => by
    have l1 : (overItem row lo i).length = lo.length := by
      unfold overItem
      split
      · rfl
      · cases e : lo with
        | nil =>
          have : ∀ (w seen : List Nat), (w.foldl (overOne row) (seen, ([] : List Nat))).2 = [] := by
            intro w
            induction w with
            | nil => intro seen; rfl
            | cons x w ih =>
              intro seen
              rw [List.foldl_cons]
              unfold overOne
              split
              · exact ih _
              · exact ih _
          rw [this]
        | cons a b => exact (over_fold row 0 _ _ (a :: b) (by simp)).1
    have l2 : (waitItem lw i).length = lw.length := by
      unfold waitItem
      split
      · rfl
      · exact incs_len _ _
    obtain ⟨r1, r2, r3⟩ := over_le_waits row r (overItem row lo i) (waitItem lw i) (by rw [l1, l2, hl]) fun j hj => by
      rw [l1] at hj
      have h0 := h j hj
      unfold overItem waitItem
      cases hi : i.1 with
      | true => exact h0
      | false =>
        show (i.2.2.foldl (overOne row) ([laneOf row i.2.1], lo)).2.getD j 0 ≤ (i.2.2.foldl inc lw).getD j 0
        rw [(over_fold row j _ _ lo hj).2]
        have h2 := incs_get i.2.2 j lw (by omega)
        split
        · rename_i hf
          have hm : i.2.2.contains j = true := List.contains_iff_mem.mpr (List.mem_of_find?_eq_some hf.2)
          rw [hm, if_pos rfl] at h2
          omega
        · omega
    exact ⟨r1.trans l1, r2.trans l2, fun j hj => r3 j (by rw [l1]; exact hj)⟩
/-! ### the bound -/
theorem find_filter {q : Nat → Bool} {c : Nat} (hc : q c = false) : ∀ w : List Nat, (w.filter fun x => x != c).find? q = w.find? q
  | [] => rfl
  | x :: w => by
    rw [List.filter_cons]
    by_cases hx : x = c
    · subst hx
      rw [if_neg (by simp), List.find?_cons, hc]
      exact find_filter hc w
    · rw [if_pos (by simpa using hx), List.find?_cons, List.find?_cons, find_filter hc w]
theorem fst_ahead {x : Nat} {ws : List Nat} (hx : x ∈ ws) : ∀ {p : List Nat}, x ∈ p → fstLane p ws ≠ x → fstLane p ws ∈ ahead x p
  | [], h, _ => by cases h
  | y :: r, h, ne => by
    by_cases hy : ws.contains y = true
    · have e : fstLane (y :: r) ws = y := by unfold fstLane; rw [List.filter_cons, if_pos hy]; rfl
      rw [e] at ne ⊢
      unfold ahead
      rw [List.takeWhile_cons, if_pos (by simpa using ne)]
      exact List.mem_cons_self
    · have e : fstLane (y :: r) ws = fstLane r ws := by unfold fstLane; rw [List.filter_cons, if_neg hy]
      have nx : y ≠ x := fun z => hy (by rw [z]; exact List.contains_iff_mem.mpr hx)
      rw [e] at ne ⊢
      unfold ahead
      rw [List.takeWhile_cons, if_pos (by simpa using nx)]
      refine List.mem_cons_of_mem _ (fst_ahead hx ?_ ne)
      rcases List.mem_cons.mp h with z | z
      · exact absurd z.symm nx
      · exact z
/-- car k was passed over along a chain -/
structure Over (R : List (List Nat)) (row : List Nat) (n : Nat) (d : Day) (l : List Nat) (k : Nat) : Prop where
  chain : ∃ s c, s < n + 1 ∧ Chn (gr R (laneOf row k)) s c ∧ c.length = l.getD k 0 ∧ (k ∈ d.waiting → endOf s c = spot d.last)
  late : d.come ≤ k → l.getD k 0 = 0
  second : k ∈ d.waiting → (d.waiting.find? fun i => laneOf row i == laneOf row k) ≠ some k → l.getD k 0 = 0
theorem over_step {R : List (List Nat)} {row l : List Nat} {n a p : Nat} {d : Day} {b : Bool} {r : List Bool} (g : Good n R) (hrow : ∀ x ∈ row, x < n) (ok : DayOk n row d a p) (le : a ≤ row.length) (v : Valid row.length a p (b :: r)) {k : Nat} (hk : k < l.length) (o : Over R row n d l k) :
    (overItem row l (dayStep R row d b).1).length = l.length ∧ Over R row n (dayStep R row d b).2 (overItem row l (dayStep R row d b).1) k := by
  have slast : spot d.last < n + 1 := by
    cases hd : d.last with
    | none => exact Nat.succ_pos _
    | some f => exact Nat.succ_lt_succ (ok.last f hd)
  cases b with
  | true =>
    refine ⟨rfl, ?_⟩
    show Over R row n ⟨d.come + 1, d.waiting ++ [d.come], d.last⟩ l k
    refine ⟨?_, fun h => o.late (by have : d.come + 1 ≤ k := h; omega), fun hm hf => ?_⟩
    · by_cases hc : d.come ≤ k
      · exact ⟨spot d.last, [], slast, trivial, (o.late hc).symm, fun _ => rfl⟩
      · obtain ⟨s, c, h1, h2, h3, h4⟩ := o.chain
        refine ⟨s, c, h1, h2, h3, fun hm => h4 ?_⟩
        rcases List.mem_append.mp hm with hm | hm
        · exact hm
        · have : k = d.come := by simpa using hm
          omega
    · rcases List.mem_append.mp (show k ∈ d.waiting ++ [d.come] from hm) with hm | hm
      · refine o.second hm fun hf2 => hf ?_
        show (d.waiting ++ [d.come]).find? _ = some k
        rw [List.find?_append, hf2]; rfl
      · have : k = d.come := by simpa using hm
        exact o.late (by omega)
  | false =>
    obtain ⟨a', p', ok', _, _, ne⟩ := day_ok g rfl hrow ok le v
    obtain ⟨pf, h1, h2⟩ := good_at (R := R) g ok.last
    have ep : (R[spot d.last]?).getD [] = pf := by rw [h1]; rfl
    have lanes : ∀ c ∈ d.waiting, laneOf row c < n := fun c hc => hrow _ (laneOf_mem (by have := ok.lt c hc; have := ok.come; omega))
    obtain ⟨q1, q2⟩ := fstCar_mem (row := row) (p := pf) (ne rfl) fun c hc => prm_mem h2 (lanes c hc)
    -- the car, its lane
    have efind : d.waiting.find? (fun i => laneOf row i == laneOf row (fstCar pf row d.waiting)) = some (fstCar pf row d.waiting) := by
      rw [q2]
      unfold fstCar
      cases hf : d.waiting.find? fun c => laneOf row c == fstLane pf (d.waiting.map (laneOf row)) with
      | some y => rfl
      | none =>
        have h3 := List.find?_eq_none.mp hf _ q1
        rw [q2] at h3
        simp at h3
    obtain ⟨c0, hc0⟩ : ∃ c0, fstCar pf row d.waiting = c0 := ⟨_, rfl⟩
    have e1 : (dayStep R row d false).1 = (false, c0, d.waiting.filter fun x => x != c0) := by
      unfold dayStep
      rw [ep, hc0]
    have e2 : (dayStep R row d false).2 = ⟨d.come, d.waiting.filter (fun x => x != c0), some (laneOf row c0)⟩ := by
      unfold dayStep
      rw [ep, hc0]
    rw [hc0] at q1 q2 efind
    rw [e1, e2]
    have eo : overItem row l (false, c0, d.waiting.filter fun x => x != c0) = ((d.waiting.filter fun x => x != c0).foldl (overOne row) ([laneOf row c0], l)).2 := rfl
    obtain ⟨f1, f2⟩ := over_fold row k (d.waiting.filter fun x => x != c0) [laneOf row c0] l hk
    refine ⟨f1, ?_⟩
    rw [← eo] at f2
    have pl : laneOf row c0 < n := lanes c0 q1
    have slast' : spot (some (laneOf row c0)) < n + 1 := Nat.succ_lt_succ pl
    -- where nothing is added
    have same : ¬ ([laneOf row c0].contains (laneOf row k) = false ∧ ((d.waiting.filter fun x => x != c0).find? fun i => laneOf row i == laneOf row k) = some k) → (overItem row l (false, c0, d.waiting.filter fun x => x != c0)).getD k 0 = l.getD k 0 := fun h => by rw [f2, if_neg h]; rfl
    have zero : laneOf row c0 = laneOf row k → k ≠ c0 → k ∈ d.waiting → l.getD k 0 = 0 := fun h1 h2 h3 => o.second h3 (by
      rw [← h1, efind]
      intro z
      injection z with z
      exact h2 z.symm)
    by_cases hw : k ∈ d.waiting.filter fun x => x != c0
    · obtain ⟨hw1, hw2⟩ := List.mem_filter.mp hw
      have nk : k ≠ c0 := by simpa using hw2
      by_cases hl : laneOf row c0 = laneOf row k
      · have sm := same fun z => by
          have := z.1
          rw [hl] at this
          simp at this
        have z0 := zero hl nk hw1
        exact ⟨⟨_, [], slast', trivial, by rw [sm, z0]; rfl, fun _ => rfl⟩, fun h => by rw [sm]; exact o.late h, fun _ _ => by rw [sm]; exact z0⟩
      · have hb : (fun i => laneOf row i == laneOf row k) c0 = false := beq_eq_false_iff_ne.mpr hl
        have ff := find_filter (q := fun i => laneOf row i == laneOf row k) hb d.waiting
        by_cases hf : (d.waiting.find? fun i => laneOf row i == laneOf row k) = some k
        · have add : (overItem row l (false, c0, d.waiting.filter fun x => x != c0)).getD k 0 = l.getD k 0 + 1 := by
            rw [f2, if_pos ⟨by simpa using fun z => hl z.symm, by rw [ff, hf]⟩]
          obtain ⟨s, c, g1, g2, g3, g4⟩ := o.chain
          have ge := g4 hw1
          have kl := lanes k hw1
          refine ⟨⟨s, c ++ [laneOf row c0], g1, chn_app.mpr ⟨g2, ?_, trivial⟩, by rw [add, List.length_append, g3]; rfl, fun _ => by rw [endOf_app]; exact Nat.add_comm _ _⟩, fun h => ?_, fun _ h => ?_⟩
          · show laneOf row c0 ∈ rowAt (gr R (laneOf row k)) (endOf s c)
            rw [ge, gr_row, ep, q2]
            exact fst_ahead (List.mem_map.mpr ⟨k, hw1, rfl⟩) (prm_mem h2 kl) (by rw [← q2]; exact hl)
          · have := ok.lt k hw1
            have h' : d.come ≤ k := h
            omega
          · exact absurd (ff.trans hf) h
        · have sm := same fun z => hf (by rw [← ff]; exact z.2)
          have z0 := o.second hw1 hf
          exact ⟨⟨_, [], slast', trivial, by rw [sm, z0]; rfl, fun _ => rfl⟩, fun h => by rw [sm]; exact o.late h, fun _ _ => by rw [sm]; exact z0⟩
    · have sm := same fun z => hw (List.mem_of_find?_eq_some z.2)
      obtain ⟨s, c, g1, g2, g3, g4⟩ := o.chain
      exact ⟨⟨s, c, g1, g2, by rw [sm]; exact g3, fun h => absurd h hw⟩, fun h => by rw [sm]; exact o.late h, fun h => absurd h hw⟩
theorem over_run {R : List (List Nat)} {row : List Nat} {n : Nat} (g : Good n R) (hrow : ∀ x ∈ row, x < n) {k : Nat} : ∀ {bs : List Bool} {l : List Nat} {a p : Nat} {d : Day}, DayOk n row d a p → a ≤ row.length → Valid row.length a p bs → k < l.length → Over R row n d l k →
    ∃ s c, s < n + 1 ∧ Chn (gr R (laneOf row k)) s c ∧ c.length = (overM row l (dayRun R row d bs)).getD k 0
  | [], l, a, p, d, _, _, _, _, o => by
    obtain ⟨s, c, h1, h2, h3, _⟩ := o.chain
    exact ⟨s, c, h1, h2, h3⟩
  | b :: r, l, a, p, d, ok, le, v, hk, o => by
    obtain ⟨a', p', ok', le', v', _⟩ := day_ok g rfl hrow ok le v
    obtain ⟨s1, s2⟩ := over_step g hrow ok le v hk o
    exact over_run (bs := r) (l := overItem row l (dayStep R row d b).1) (d := (dayStep R row d b).2) g hrow ok' le' v' (by rw [s1]; exact hk) s2
/-- no car is passed over more often than its lane's bound -/
theorem over_le {R : List (List Nat)} {row : List Nat} {n k b T : Nat} {bs : List Bool} (g : Good n R) (hrow : ∀ x ∈ row, x < n) (v : Valid row.length 0 0 bs) (hk : k < T) (bd : BoundG (gr R (laneOf row k)) (some b)) : (overM row (List.replicate T 0) (dayRun R row day0 bs)).getD k 0 ≤ b := by
  have z : (List.replicate T 0).getD k 0 = 0 := by rw [List.getD_eq_getElem?_getD, List.getElem?_replicate]; split <;> rfl
  obtain ⟨s, c, h1, h2, h3⟩ := over_run g hrow (day0_ok n row) (Nat.zero_le _) v (k := k) (l := List.replicate T 0) (by simpa using hk) ⟨⟨0, [], Nat.succ_pos _, trivial, z.symm, fun h => by cases h⟩, fun _ => z, fun h => by cases h⟩
  rw [← h3]
  exact bd.2.1 s (by rw [gr_len, g.2.2.1]; exact h1) c h2
end GG
/-! M3: the worst day in plain Lean. -/
namespace GG

def cycB (k : Nat) : List Bool := (List.replicate k [true, false]).flatten
theorem cycB_succ (k : Nat) : cycB (k + 1) = true :: false :: cycB k := by unfold cycB; rw [List.replicate_succ, List.flatten_cons]; rfl
theorem cycB_len : ∀ k, (cycB k).length = 2 * k
  | 0 => rfl
  | k + 1 => by rw [cycB_succ, List.length_cons, List.length_cons, cycB_len k]; omega
theorem cycB_count : ∀ k, (cycB k).count true = k
  | 0 => rfl
  | k + 1 => by rw [cycB_succ, List.count_cons, List.count_cons, cycB_count k]; rfl
theorem dayRun_app (R : List (List Nat)) (row : List Nat) : ∀ (a b : List Bool) (d : Day), dayRun R row d (a ++ b) = dayRun R row d a ++ dayRun R row (dayEnd R row d a) b
  | [], _, _ => rfl
  | x :: a, b, d => congrArg (_ :: ·) (dayRun_app R row a b _)
theorem overM_app (row : List Nat) : ∀ (a b : List Item) (l : List Nat), overM row l (a ++ b) = overM row (overM row l a) b
  | [], _, _ => rfl
  | x :: a, b, l => overM_app row a b _
theorem ahead_ne {l y : Nat} {p : List Nat} (h : y ∈ ahead l p) : y ≠ l ∧ y ∈ p := by
  unfold ahead at h
  exact ⟨by simpa using mem_tw h, (List.takeWhile_sublist _).mem h⟩
theorem fst_two {l y : Nat} : ∀ {p : List Nat}, y ∈ ahead l p → fstLane p [l, y] = y
  | [], h => by cases h
  | z :: r, h => by
    unfold ahead at h
    rw [List.takeWhile_cons] at h
    by_cases hz : z = l
    · rw [if_neg (by simp [hz])] at h; cases h
    · rw [if_pos (by simpa using hz)] at h
      unfold fstLane
      rw [List.filter_cons]
      by_cases hy : y = z
      · subst hy
        rw [if_pos (by simp)]; rfl
      · rw [if_neg (by simp [hz]; exact fun e => hy e.symm)]
        rcases List.mem_cons.mp h with w | w
        · exact absurd w hy
        · exact fst_two w
theorem car_one {p row : List Nat} {k : Nat} (h : laneOf row k ∈ p) : fstCar p row [k] = k := by
  have q := (fstCar_mem (row := row) (p := p) (cs := [k]) (by simp) fun c hc => by
    obtain rfl : c = k := by simpa using hc
    exact h).1
  simpa using q
theorem car_two {p row : List Nat} {k j : Nat} (h : laneOf row j ∈ ahead (laneOf row k) p) (hk : laneOf row k ∈ p) : fstCar p row [k, j] = j := by
  obtain ⟨n1, n2⟩ := ahead_ne h
  obtain ⟨q1, q2⟩ := fstCar_mem (row := row) (p := p) (cs := [k, j]) (by simp) fun c hc => by
    rcases List.mem_cons.mp hc with rfl | hc
    · exact hk
    · obtain rfl : c = j := by simpa using hc
      exact n2
  have e : fstLane p ([k, j].map (laneOf row)) = laneOf row j := fst_two h
  rw [e] at q2
  rcases List.mem_cons.mp q1 with w | w
  · rw [w] at q2
    exact absurd q2.symm n1
  · simpa using w
theorem drop_head {row : List Nat} {j y : Nat} {c : List Nat} (h : row.drop j = y :: c) : laneOf row j = y ∧ row.drop (j + 1) = c := by
  have hj : j < row.length := by
    have := congrArg List.length h
    rw [List.length_drop, List.length_cons] at this
    omega
  rw [List.drop_eq_getElem_cons hj] at h
  injection h with h1 h2
  refine ⟨?_, h2⟩
  unfold laneOf
  rw [List.getD_eq_getElem?_getD, List.getElem?_eq_getElem hj]
  exact h1
section
variable {R : List (List Nat)} {row : List Nat} {n l k : Nat}
theorem sim_step (g : Good n R) (hl : l < n) (hk : laneOf row k = l) {j y : Nat} {last : Option Nat} {found : List Nat} (hj : k < j) (hf : k < found.length) (hy : laneOf row j = y) (hlast : ∀ f, last = some f → f < n) (hin : y ∈ rowAt (gr R l) (spot last)) :
    dayEnd R row ⟨j, [k], last⟩ [true, false] = ⟨j + 1, [k], some y⟩ ∧ overM row found (dayRun R row ⟨j, [k], last⟩ [true, false]) = inc found k := by
  obtain ⟨pf, h1, h2⟩ := good_at (R := R) g hlast
  have ep : (R[spot last]?).getD [] = pf := by rw [h1]; rfl
  rw [gr_row, ep] at hin
  have ec : fstCar ((R[spot last]?).getD []) row [k, j] = j := by
    rw [ep]
    exact car_two (by rw [hy, hk]; exact hin) (by rw [hk]; exact prm_mem h2 hl)
  have nj : k ≠ j := by omega
  have fl : [k, j].filter (fun x => x != j) = [k] := by simp [nj]
  have e1 : dayStep R row ⟨j, [k], last⟩ true = ((true, j, [k, j]), ⟨j + 1, [k, j], last⟩) := rfl
  have e2 : dayStep R row ⟨j + 1, [k, j], last⟩ false = ((false, j, [k]), ⟨j + 1, [k], some y⟩) := by
    show ((false, fstCar ((R[spot last]?).getD []) row [k, j], [k, j].filter fun x => x != fstCar ((R[spot last]?).getD []) row [k, j]), (⟨j + 1, [k, j].filter (fun x => x != fstCar ((R[spot last]?).getD []) row [k, j]), some (laneOf row (fstCar ((R[spot last]?).getD []) row [k, j]))⟩ : Day)) = _
    rw [ec, fl, hy]
  constructor
  · show (dayStep R row (dayStep R row ⟨j, [k], last⟩ true).2 false).2 = _
    rw [e1, e2]
  · show overItem row (overItem row found (dayStep R row ⟨j, [k], last⟩ true).1) (dayStep R row (dayStep R row ⟨j, [k], last⟩ true).2 false).1 = _
    rw [e1, e2]
    show (overOne row ([laneOf row j], found) k).2 = _
    unfold overOne
    rw [if_neg (by
      rw [hy, hk]
      have := (ahead_ne hin).1
      simp
      exact fun z => this z.symm)]
theorem sim (g : Good n R) (hl : l < n) (hk : laneOf row k = l) : ∀ (c : List Nat) (j : Nat) (last : Option Nat) (found : List Nat), k < j → k < found.length → row.drop j = c → (∀ f, last = some f → f < n) → Chn (gr R l) (spot last) c →
    (∃ last', dayEnd R row ⟨j, [k], last⟩ (cycB c.length) = ⟨j + c.length, [k], last'⟩ ∧ ∀ f, last' = some f → f < n) ∧ (overM row found (dayRun R row ⟨j, [k], last⟩ (cycB c.length))).getD k 0 = found.getD k 0 + c.length
  | [], j, last, found, _, _, _, hlast, _ => ⟨⟨last, rfl, hlast⟩, rfl⟩
  | y :: c, j, last, found, hj, hf, hd, hlast, hc => by
    obtain ⟨hy, hd2⟩ := drop_head hd
    obtain ⟨s1, s2⟩ := sim_step (row := row) g hl hk hj hf hy hlast hc.1
    have yl := (gr_lt g _ _ hc.1).1
    have es : spot (some y) = 1 + y := Nat.add_comm _ _
    obtain ⟨⟨last', i1, i2⟩, i3⟩ := sim g hl hk c (j + 1) (some y) (inc found k) (by omega) (by rw [inc_len]; exact hf) hd2 (fun f e => by injection e with e; omega) (by rw [es]; exact hc.2)
    have ecy : cycB (y :: c).length = [true, false] ++ cycB c.length := cycB_succ c.length
    have dend : ∀ (a b : List Bool) (d : Day), dayEnd R row d (a ++ b) = dayEnd R row (dayEnd R row d a) b := by
      intro a b
      induction a with
      | nil => intro d; rfl
      | cons x a ih => intro d; exact ih _
    refine ⟨⟨last', ?_, i2⟩, ?_⟩
    · rw [ecy, dend, s1, i1, List.length_cons]
      congr 1; omega
    · rw [ecy, dayRun_app, overM_app, s1, s2, i3, inc_get _ _ _ hf, if_pos rfl, List.length_cons]
      omega
theorem valid_sim {m : Nat} : ∀ {q a p : Nat}, p + 1 = a → a + q ≤ m → Valid m a p (cycB q ++ [false])
  | 0, a, p, h, _ => ⟨by omega, trivial⟩
  | q + 1, a, p, h, h2 => by
    rw [cycB_succ]
    exact ⟨by omega, by omega, valid_sim (by omega) (by omega)⟩
/-- the row and the word of a worst day -/
def wdRow (o : Option Nat) (l : Nat) (c : List Nat) : List Nat := o.toList ++ l :: c
def wdWord (o : Option Nat) (q : Nat) : List Bool := cycB o.toList.length ++ true :: (cycB q ++ [false])
theorem wd_len (o : Option Nat) (l : Nat) (c : List Nat) : (wdRow o l c).length = o.toList.length + 1 + c.length := by
  unfold wdRow; rw [List.length_append, List.length_cons]; omega
theorem wd_lane (o : Option Nat) (l : Nat) (c : List Nat) : laneOf (wdRow o l c) o.toList.length = l := by
  unfold laneOf wdRow
  rw [List.getD_eq_getElem?_getD, List.getElem?_append_right (Nat.le_refl _), Nat.sub_self]; rfl
theorem wd_facts (g : Good n R) (hl : l < n) {o : Option Nat} {c : List Nat} (ho : ∀ f, o = some f → f < n) (hc : Chn (gr R l) (spot o) c) :
    Valid (wdRow o l c).length 0 0 (wdWord o c.length) ∧ (wdWord o c.length).count true = (wdRow o l c).length ∧ (wdWord o c.length).length = 2 * (wdRow o l c).length ∧ (∀ x ∈ wdRow o l c, x < n) ∧
      (overM (wdRow o l c) (List.replicate (wdRow o l c).length 0) (dayRun R (wdRow o l c) day0 (wdWord o c.length))).getD o.toList.length 0 = c.length := by
  have len := wd_len o l c
  have lane := wd_lane o l c
  refine ⟨?_, ?_, ?_, fun x hx => ?_, ?_⟩
  · cases o with
    | none => exact ⟨by rw [len]; show 0 < 0 + 1 + c.length; omega, valid_sim rfl (by rw [len]; show 0 + 1 + c.length ≤ 0 + 1 + c.length; omega)⟩
    | some f => exact ⟨by rw [len]; show 0 < 1 + 1 + c.length; omega, by omega, by rw [len]; show 0 + 1 < 1 + 1 + c.length; omega, valid_sim rfl (by rw [len]; show 0 + 1 + 1 + c.length ≤ 1 + 1 + c.length; omega)⟩
  · unfold wdWord
    rw [List.count_append, List.count_cons, List.count_append, cycB_count, cycB_count, len]
    simp; omega
  · unfold wdWord
    rw [List.length_append, List.length_cons, List.length_append, cycB_len, cycB_len, len]
    simp; omega
  · unfold wdRow at hx
    rcases List.mem_append.mp hx with hx | hx
    · exact ho x (by simpa using hx)
    · rcases List.mem_cons.mp hx with rfl | hx
      · exact hl
      · have sub : ∀ {s c}, Chn (gr R l) s c → ∀ x ∈ c, x < n := by
          intro s c
          induction c generalizing s with
          | nil => intro _ x hx; cases hx
          | cons y r ih =>
            intro h x hx
            rcases List.mem_cons.mp hx with rfl | hx
            · exact (gr_lt g _ _ h.1).1
            · exact ih h.2 x hx
        exact sub hc x hx
  · -- the day
    have z : (List.replicate (wdRow o l c).length 0).getD o.toList.length 0 = 0 := by rw [List.getD_eq_getElem?_getD, List.getElem?_replicate]; split <;> rfl
    have hkl : o.toList.length < (List.replicate (wdRow o l c).length 0).length := by rw [List.length_replicate, len]; omega
    have start : dayEnd R (wdRow o l c) day0 (cycB o.toList.length ++ [true]) = ⟨o.toList.length + 1, [o.toList.length], o⟩ ∧ overM (wdRow o l c) (List.replicate (wdRow o l c).length 0) (dayRun R (wdRow o l c) day0 (cycB o.toList.length ++ [true])) = List.replicate (wdRow o l c).length 0 := by
      cases o with
      | none => exact ⟨rfl, rfl⟩
      | some f =>
        obtain ⟨pf, h1, h2⟩ := good_at (R := R) g (o := none) (fun l h => by cases h)
        have ep : (R[spot none]?).getD [] = pf := by rw [h1]; rfl
        have l0 : laneOf (wdRow (some f) l c) 0 = f := rfl
        have ec : fstCar ((R[spot none]?).getD []) (wdRow (some f) l c) [0] = 0 := by
          rw [ep]
          exact car_one (by rw [l0]; exact prm_mem h2 (ho f rfl))
        have e2 : dayStep R (wdRow (some f) l c) ⟨1, [0], none⟩ false = ((false, 0, []), ⟨1, [], some f⟩) := by
          show ((false, fstCar ((R[spot none]?).getD []) (wdRow (some f) l c) [0], [0].filter fun x => x != fstCar ((R[spot none]?).getD []) (wdRow (some f) l c) [0]), (⟨1, [0].filter (fun x => x != fstCar ((R[spot none]?).getD []) (wdRow (some f) l c) [0]), some (laneOf (wdRow (some f) l c) (fstCar ((R[spot none]?).getD []) (wdRow (some f) l c) [0]))⟩ : Day)) = _
          rw [ec]; rfl
        constructor
        · show (dayStep R (wdRow (some f) l c) (dayStep R (wdRow (some f) l c) ⟨1, [0], none⟩ false).2 true).2 = _
          rw [e2]; rfl
        · show overItem (wdRow (some f) l c) (overItem (wdRow (some f) l c) (List.replicate (wdRow (some f) l c).length 0) (dayStep R (wdRow (some f) l c) ⟨1, [0], none⟩ false).1) (dayStep R (wdRow (some f) l c) (dayStep R (wdRow (some f) l c) ⟨1, [0], none⟩ false).2 true).1 = _
          rw [e2]; rfl
    have dr : (wdRow o l c).drop (o.toList.length + 1) = c := by
      unfold wdRow
      rw [List.drop_append]
      simp
    obtain ⟨⟨last', i1, i2⟩, i3⟩ := sim (row := wdRow o l c) g hl lane c (o.toList.length + 1) o (List.replicate (wdRow o l c).length 0) (by omega) hkl dr ho hc
    have ew : wdWord o c.length = (cycB o.toList.length ++ [true]) ++ (cycB c.length ++ [false]) := by unfold wdWord; simp
    have elast : ∀ (found : List Nat), overM (wdRow o l c) found (dayRun R (wdRow o l c) ⟨o.toList.length + 1 + c.length, [o.toList.length], last'⟩ [false]) = found := fun found => by
      obtain ⟨pf, h1, h2⟩ := good_at (R := R) g (o := last') i2
      have ep : (R[spot last']?).getD [] = pf := by rw [h1]; rfl
      have ec : fstCar ((R[spot last']?).getD []) (wdRow o l c) [o.toList.length] = o.toList.length := by
        rw [ep]
        exact car_one (by rw [lane]; exact prm_mem h2 hl)
      show overItem _ found (false, fstCar ((R[spot last']?).getD []) (wdRow o l c) [o.toList.length], [o.toList.length].filter fun x => x != fstCar ((R[spot last']?).getD []) (wdRow o l c) [o.toList.length]) = found
      rw [ec]
      have : [o.toList.length].filter (fun x => x != o.toList.length) = [] := by simp
      rw [this]; rfl
    rw [ew, dayRun_app, overM_app, start.1, start.2, dayRun_app, overM_app, i1, elast, i3, z]
    omega
end
end GG
/-! D15: worst_day. -/
namespace GG
open PySem
open PySem.Spec
open PyProof.Rows
open L2
open RR
open StX

theorem word_app (a b : List Bool) : wordS a ++ wordS b = wordS (a ++ b) := by
  show (⟨(a.map sgn).toArray ++ (b.map sgn).toArray⟩ : Str) = ⟨((a ++ b).map sgn).toArray⟩
  rw [List.map_append]; simp
theorem ap_word : ("a" : Str) ++ ("p" : Str) = wordS [true, false] := by decide
theorem mul_word (k : Nat) : (⟨(List.replicate k (wordS [true, false]).cps.toList).flatten.toArray⟩ : Str) = wordS (cycB k) := by
  show _ = (⟨((cycB k).map sgn).toArray⟩ : Str)
  congr 2
  unfold cycB
  rw [List.map_flatten, List.map_replicate]
  rfl
section
variable {Z : Result → Shared → Prop} {w : World} {K : PySem.W.Frag} {mg : Str → Option Value} {base : Heap}
def spWorst : Sp := fun vs H Q _ => ∃ r R n l count, vs = [r, nV l, nV count] ∧ Tt H r R ∧ Good n R ∧ l < n ∧ count ≤ 38 ∧
  (∀ t rv o c H', Ext H H' → Ta H' t [rv, .str (wordS (wdWord o count)), nV o.toList.length] → Tn H' rv (wdRow o l c) → (∀ f, o = some f → f < n) → Chn (gr R l) (spot o) c → c.length = count → Q (.ref t) H') ∧
  ∀ H', Ext H H' → (¬ ∃ h t, Ring (gr R l) h t) → (∀ s, s < n + 1 → ∀ c, Chn (gr R l) s c → c.length < count) → Q .non H'
theorem sc_worst : FnScope ["rule", "lane", "count", "run", "first", "word"] ["rule", "lane", "count"] (defScope (topSt 38)) := ⟨rfl, rfl, rfl, by decide +kernel, rfl, by decide +kernel, by decide +kernel⟩
theorem ok_worst (m : Md K mg) : FnG Z PW w K mg base 18 (He.ga K "worst_day") m.d_worst_day ["rule", "lane", "count"] spWorst := by
  obtain ⟨ta, hA⟩ := m.arrival
  obtain ⟨tp, hP⟩ := m.passing
  obtain ⟨tc, hC⟩ := m.maxCars
  refine Fun.okG (k := 17) (He5.fun_of m.F_worst_day) sc_worst (fun vs H Q E h => ?_) (fun cdv A outer s H vs Q hr h => ⟨_, pssg_cons (psg_of (ps_expr (pe_call (ok_check_lane m) (hr.mono (by decide)) rfl m.g_check_lane m.F_check_lane.kp m.b_check_lane .nil pass0 (pa_cons (pv 0) (pa_cons (pv 1) pa_nil)))))
    (pssg_cons (psg_of (ps_if (pt_not (pt_val (pe_call (ok_is_integer m) (hr.mono (by decide)) rfl m.g_is_integer m.F_is_integer.kp m.b_is_integer .nil pass0 (pa_cons (pv 2) (pa_cons pe_int (pa_cons (pe_op op_sub (pe_glob (v := .int 40) (by rfl) hC ⟨_, rfl⟩) pe_int) pa_nil)))))) (pss_one ps_never) pss_nil))
    (pssg_cons (psg_set (i := 3) sc_worst.nd rfl (Or.inl rfl) (peg_call (ok_longRun m) hr rfl m.g_long_run m.F_long_run.kp m.b_long_run .nil (pa_cons (pe_make m.mkr (ok_init m) (hr.mono (by decide)) rfl m.g_Arrows m.eb_init .nil pass0 (pa_cons (pv 0) (pa_cons (pv 1) pa_nil))) (pa_cons (pv 2) pa_nil))))
    (pssg_of (pss_cons (ps_if (pt_cmpR op_isN (pv 3) pe_non (nomark _)) (pss_one (ps_ret pe_non)) pss_nil)
      (pss_cut (ps_set (i := 4) sc_worst.nd rfl (Or.inl rfl) (pe_ifExp (pt_cmpR op_isN (pe_ix ix_tup (pv 3) pe_int (fun _ _ => rfl)) pe_non (nomark _)) (pe_tup pa_nil) (pe_slice sl_tupA (pv 3) po_none (po_some pe_int))))
      (pss_cons (ps_set (i := 5) sc_worst.nd rfl (Or.inl rfl) (pe_op op_add_str (pe_op op_add_str (pe_op op_add_str (pe_op op_mulS (pe_op op_add_str (pe_glob (v := .str "a") (by rfl) hA ⟨_, rfl⟩) (pe_glob (v := .str "p") (by rfl) hP ⟨_, rfl⟩)) (pe_callB call_len_seq (by rfl) m.n_len PySem.boot_len (pa_cons (pv 4) pa_nil))) (pe_glob (v := .str "a") (by rfl) hA ⟨_, rfl⟩)) (pe_op op_mulS (pe_op op_add_str (pe_glob (v := .str "a") (by rfl) hA ⟨_, rfl⟩) (pe_glob (v := .str "p") (by rfl) hP ⟨_, rfl⟩)) (pv 2))) (pe_glob (v := .str "p") (by rfl) hP ⟨_, rfl⟩)))
      (pss_one (ps_ret (pe_tup (pa_cons (pe_tup (pa_star (pv 4) (pa_cons (pv 1) (pa_star (pe_slice sl_tupA (pv 3) (po_some pe_int) po_none) pa_nil)))) (pa_cons (pv 5) (pa_cons (pe_callB call_len_seq (by rfl) m.n_len PySem.boot_len (pa_cons (pv 4) pa_nil)) pa_nil)))))))))))), ?_⟩)
  · obtain ⟨r, R, n, l, count, rfl, _⟩ := h; rfl
  · obtain ⟨r, R, n, l, count, rfl, tt, g, hl, c38, qy, qn⟩ := h
    have tt' := tt
    obtain ⟨a, vs, rfl, ha, hv⟩ := tt
    have lv := paired_len hv
    have gl := g.2.2.1
    have n6 := g.2.1
    refine ⟨_, rfl, _, rfl, a, vs, l, rfl, ha, by omega, ?_⟩
    refine ⟨_, rfl, _, _, rfl, rfl, (count : Int), 0, _, rfl, true, congrArg V.bl (decide_eq_true (by omega)), iteF ?_⟩
    refine ⟨_, rfl, _, rfl, fun x dx hx hdx nx => ?_⟩
    have e1 : Ext H (L2.upd (L2.upd H dx (.own x)) x (.ins (aCls K) dx [])) := (Ext.upd hdx).put (by rw [upd_ne (Ne.symm nx)]; exact hx)
    refine ⟨x, dx, .ref a, R, l, rfl, upd_same, tt'.ext e1, by omega, fun p hp => ⟨prm_mem (g.2.2.2 p hp) hl, by rw [(g.2.2.2 p hp).1]; omega⟩, fun H2 G keep ar gok => ⟨rfl, ?_⟩⟩
    have e2 : Ext H H2 := fun c o h => keep c o (fun z => by rw [z, hx] at h; cases h) (e1 c o h)
    obtain ⟨hG, hP2, hring, hchn⟩ := gok_facts g gok
    refine ⟨_, rfl, .ref x, l, G, n, count, rfl, ar, hG, n6, hP2, c38, fun v o c H3 e3 ⟨b, hb1, hb⟩ hs hc lc => ?_, fun H3 e3 no sh => ?_⟩
    · subst hb1
      have e03 := e2.trans e3
      refine ⟨_, rfl, rfl, _, rfl, ?_⟩
      show if decide (V.ref b = V.non) = true then _ else _
      rw [decide_eq_false (fun z => by cases z)]
      have ol : o.toList.length ≤ 1 := by cases o <;> simp
      refine iteF ⟨fun σ' H' => Ext H3 H' ∧ ∃ bf, σ' = [some (V.ref a), some (nV l), some (nV count), some (V.ref b), some (V.ref bf), Option.none] ∧ Ta H' bf (nVs o.toList), ?_, ?_⟩
      · refine ⟨_, rfl, b, _, (0 : Int), lastV o, rfl, rfl, .inl hb, atI_nat (j := 0) rfl, rfl, _, rfl, ?_⟩
        show if decide (lastV o = V.non) = true then _ else _
        rw [lastV_none]
        cases o with
        | none => exact iteT ⟨by show 0 ≤ sizeLine; decide, fun bf hbf => ⟨Ext.upd hbf, bf, rfl, .inl upd_same⟩⟩
        | some f =>
          refine iteF ⟨_, rfl, _, rfl, sl_any hb fun v1 H5 e5 ⟨bf, h1b, hbf⟩ => ?_⟩
          subst h1b
          rw [show ((1 : Int)) = ((1 : Nat) : Int) from rfl, cut_to _ _ (by simp)] at hbf
          exact ⟨e5, bf, rfl, hbf⟩
      rintro σ' H4 ⟨e4, bf, rfl, hbf⟩
      have E1 : ∀ k : Nat, (⟨(List.replicate ((k : Int)).toNat (("a" : Str) ++ ("p" : Str)).cps.toList).flatten.toArray⟩ : Str) = wordS (cycB k) := fun k => by rw [ap_word, Int.toNat_natCast, mul_word]
      have ll : (nVs o.toList).length = o.toList.length := nVs_len _
      have ea : ("a" : Str) = wordS [true] := by decide
      have epp : ("p" : Str) = wordS [false] := by decide
      have sz : ∀ x : List Bool, x.length ≤ 300 → ∀ y : List Bool, y.length ≤ 300 → (wordS x).length + (wordS y).length ≤ sizeLine := fun x hx y hy => by rw [word_len, word_len, sizeLine_eq]; omega
      have cl := cycB_len
      refine ⟨_, _, rfl, rfl, by decide, _, rfl, bf, _, rfl, .inr (.inl hbf), _, _, rfl, rfl, by omega, by omega, by decide, by decide, wordS (cycB (nVs o.toList).length), wordS [true], congrArg V.str (E1 _), congrArg V.str ea, sz _ (by rw [cl]; omega) _ (by decide), _, _, rfl, rfl, by decide, _, rfl, _, _, rfl, rfl, by omega, by omega, by decide, by decide, wordS (cycB (nVs o.toList).length ++ [true]), wordS (cycB count), congrArg V.str (word_app _ _), congrArg V.str (E1 count), sz _ (by rw [List.length_append, cl]; show _ + 1 ≤ 300; omega) _ (by rw [cl]; omega), wordS (cycB (nVs o.toList).length ++ [true] ++ cycB count), wordS [false], congrArg V.str (word_app _ _), congrArg V.str epp, sz _ (by rw [List.length_append, List.length_append, cl, cl]; show _ + 1 + _ ≤ 300; omega) _ (by decide), ?_⟩
      have eW : wordS (cycB (nVs o.toList).length ++ [true] ++ cycB count) ++ wordS [false] = wordS (wdWord o count) := by
        rw [word_app, ll]
        unfold wdWord
        simp
      refine ⟨_, rfl, bf, _, rfl, .inl (.inl hbf), _, rfl, _, rfl, _, rfl, ?_⟩
      dsimp only [tNoPart]
      refine sl_any (ta_ext hb e4) fun v1 H6 e6 ⟨b1, h1b, hb1⟩ => ?_
      subst h1b
      rw [show ((1 : Int)) = ((1 : Nat) : Int) from rfl, cut_from _ _ (by simp)] at hb1
      refine ⟨b1, _, rfl, .inl (.inl hb1), ?_, fun t1 ht1 => ⟨_, rfl, _, rfl, bf, _, rfl, .inr (.inl (ta_ext (ta_ext hbf e6) (Ext.upd ht1))), by show 3 ≤ sizeLine; decide, fun t ht => ?_⟩⟩
      · rw [sizeLine_eq]
        simp only [List.length_append, List.length_cons, List.length_drop, List.length_map, List.length_nil]
        omega
      · have row : (nVs o.toList ++ nV l :: ((lastV o :: nVs c).drop 1 ++ [])) = nVs (wdRow o l c) := by
          unfold wdRow
          rw [nVs_app, List.append_nil]; rfl
        refine qy t (.ref t1) o c _ ((((e03.trans e4).trans e6).put ht1).put ht) (.inl ?_) ⟨t1, rfl, .inl ?_⟩ (fun f e => by rw [e] at hs; have : f + 1 < n + 1 := hs; omega) ((hchn _ _).mp hc) lc
        · rw [upd_same, ← eW, ← ll]
        · refine Ext.upd ht _ _ ?_
          rw [upd_same, ← row]
    · refine ⟨_, rfl, rfl, _, rfl, ?_⟩
      show if decide (V.non = V.non) = true then _ else _
      rw [decide_eq_true rfl]
      exact iteT (qn H3 (e2.trans e3) (fun ⟨h, t, r⟩ => no ⟨h, t, (hring h t).mpr r⟩) fun s hs c hc => sh s hs c ((hchn s c).mpr hc))
end
end GG
/-! D16: _law_days_right. -/
namespace GG
open PySem
open PySem.Spec
open PyProof.Rows
open L2
open RR
open StX

theorem bnds_one {R : List (List Nat)} {n : Nat} {bs bs' : List (Option Nat)} (h : Bnds R n bs) (k : Bnds R n bs') : bs = bs' := by
  refine List.ext_getElem (by rw [h.1, k.1]) fun i h1 h2 => ?_
  exact bound_one (h.2 i _ (List.getElem?_eq_getElem h1)) (k.2 i _ (List.getElem?_eq_getElem h2))
section
variable {Z : Result → Shared → Prop} {X : Cx}
def tCutG (t u : TSg) : TSg := fun D yl σ H => ∃ M : L2.St → Hp → Prop, t { D with nx := M } yl σ H ∧ ∀ σ' H', M σ' H' → u D yl σ' H'
theorem pssg_cut {st : Stmt} {rest : List Stmt} {t u : TSg} (h1 : PSg Z X st t) (h2 : PSsg Z X rest u) : PSsg Z X (st :: rest) (tCutG t u) := by
  refine ⟨fun c pins s dl σ H D yl I d ⟨M, ht, k⟩ => ?_⟩
  rw [execs_bind]
  refine wpG_bind (wpG_thn (h1.run c pins s dl σ H { D with nx := M } yl I d ht) fun f s1 dl1 q => ?_)
  cases f with
  | next =>
    obtain ⟨σ', H', I', d', q⟩ := q
    exact h2.run c pins s1 dl1 σ' H' D yl I' d' (k _ _ q)
  | ret v => exact wpG_pure q
  | brk => exact wpG_pure q
  | cont => exact wpG_pure q
end
section
variable {Z : Result → Shared → Prop} {w : World} {K : PySem.W.Frag} {mg : Str → Option Value} {base : Heap}
def spDays : Sp := fun vs H Q _ => ∃ a b c r R n, vs = [.ref a, r] ∧ Loom a b c H ∧ c + 200 < 2 ^ 32 ∧ Tt H r R ∧ Good n R ∧ ∀ H', ExtL a b H H' → Loom a b (c + 200) H' → Q (.bl true) H'
theorem sc_days : FnScope ["_law_loom_here", "_law_rule_here", "_law_many", "_law_bounds", "_law_row_here", "_law_word_here", "_law_over", "_law_waited", "_law_k", "_law_lane", "_law_count", "_law_some", "_law_text", "_law_car"] ["_law_loom_here", "_law_rule_here"] (defScope (topSt 46)) := ⟨rfl, rfl, rfl, by decide +kernel, rfl, by decide +kernel, by decide +kernel⟩
theorem ok_days (m : Md K mg) : FnG Z PW w K mg base 22 (He.ga K "_law_days_right") m.d__law_days_right ["_law_loom_here", "_law_rule_here"] spDays := by
  refine Fun.okG (k := 21) (He5.fun_of m.F__law_days_right) sc_days (fun vs H Q E h => ?_) (fun cdv A outer s H vs Q hr h => ⟨_, pssg_cons (psg_asg (peg_tup (pag_cons (peg_of (pe_op op_sub (pe_callB call_len_seq (by rfl) m.n_len PySem.boot_len (pa_cons (pv 1) pa_nil)) pe_int)) (pag_cons (peg_call (ok_laneB m) (hr.mono (by decide)) rfl m.g_lane_bounds m.F_lane_bounds.kp m.b_lane_bounds .nil (pa_cons (pv 1) pa_nil)) (pag_of pa_nil)))) (pg_tup rfl (pgs_cons (pg_name (i := 2) sc_days.nd rfl (Or.inl rfl)) (pgs_cons (pg_name (i := 3) sc_days.nd rfl (Or.inr rfl)) pgs_nil))))
    (pssg_cons (psg_of (ps_set (i := 4) sc_days.nd rfl (Or.inl rfl) (pe_call (ok_row m) (hr.mono (by decide)) rfl m.g__law_row m.F__law_row.kp m.b__law_row .nil pass0 (pa_cons (pv 0) (pa_cons (pv 2) (pa_cons pe_int pa_nil))))))
    (pssg_cons (psg_of (ps_set (i := 5) sc_days.nd rfl (Or.inl rfl) (pe_call (ok_word m) (hr.mono (by decide)) rfl m.g__law_word m.F__law_word.kp m.b__law_word .nil pass0 (pa_cons (pv 0) (pa_cons (pe_callB call_len_seq (by rfl) m.n_len PySem.boot_len (pa_cons (pv 4) pa_nil)) (pa_cons pe_bl pa_nil))))))
    (pssg_cons (psg_of (ps_par (i := 6) (j := 7) rfl sc_days.nd rfl rfl (by decide) rfl rfl (pa_cons (pe_call (ok_passed_over m) (hr.mono (by decide)) rfl m.g_passed_over m.F_passed_over.kp m.b_passed_over .nil pass0 (pa_cons (pv 1) (pa_cons (pv 4) (pa_cons (pv 5) pa_nil)))) (pa_cons (pe_call (ok_waits m) (hr.mono (by decide)) rfl m.g_waits m.F_waits.kp m.b_waits .nil pass0 (pa_cons (pv 1) (pa_cons (pv 4) (pa_cons (pv 5) pa_nil)))) pa_nil)) (by rfl)))
    (pssg_cons (psg_of (ps_for PassesOwn.never rfl (pi_range1 (by rfl) m.n_range (pa_cons (pe_callB call_len_seq (by rfl) m.n_len PySem.boot_len (pa_cons (pv 4) pa_nil)) pa_nil)) (pg_name (i := 8) sc_days.nd rfl (Or.inl rfl))
      (pss_one (ps_if (PW.pt (pw_or (pt_cmpR op_gt (pe_ix ix_tup (pv 6) (pv 8) (fun _ _ => rfl)) (pe_ix ix_tup (pv 7) (pv 8) (fun _ _ => rfl)) (nomark _)) (pw_or1 (PW.pt (pw_and (pt_cmpR op_notN (pe_ix ix_tup (pv 3) (pe_ix ix_tup (pv 4) (pv 8) (fun _ _ => rfl)) (fun _ _ => rfl)) pe_non (nomark _))
          (pw_and1 (pt_cmpR op_gt (pe_ix ix_tup (pv 6) (pv 8) (fun _ _ => rfl)) (pe_ix ix_tup (pv 3) (pe_ix ix_tup (pv 4) (pv 8) (fun _ _ => rfl)) (fun _ _ => rfl)) (nomark _)))))))) (pss_one (ps_ret pe_bl)) pss_nil))))
    (pssg_cons (psg_for (fun _ _ h => h) rfl (pig_range1 (by rfl) m.n_range (pa_cons (pv 2) pa_nil)) (pg_name (i := 9) sc_days.nd rfl (Or.inl rfl))
      (pssg_cut (psg_of (ps_set (i := 10) sc_days.nd rfl (Or.inl rfl) (pe_ifExp (pt_cmpR op_isN (pe_ix ix_tup (pv 3) (pv 9) (fun _ _ => rfl)) pe_non (nomark _)) pe_int (pe_ix ix_tup (pv 3) (pv 9) (fun _ _ => rfl)))))
      (pssg_cons (psg_asg (peg_call (ok_worst m) (hr.mono (by decide)) rfl m.g_worst_day m.F_worst_day.kp m.b_worst_day .nil (pa_cons (pv 1) (pa_cons (pv 9) (pa_cons (pv 10) pa_nil)))) (pg_tup rfl (pgs_cons (pg_name (i := 11) sc_days.nd rfl (Or.inl rfl)) (pgs_cons (pg_name (i := 12) sc_days.nd rfl (Or.inl rfl)) (pgs_cons (pg_name (i := 13) sc_days.nd rfl (Or.inl rfl)) pgs_nil)))))
      (pssg_cons (psg_of (ps_if (PW.pt (pw_or (pt_cmpR op_ne (pe_ix ix_tup (pv 11) (pv 13) (fun _ _ => rfl)) (pv 9) (nomark _)) (pw_or1 (pt_cmpR op_ne (pe_ix ix_tup (pe_call (ok_passed_over m) (hr.mono (by decide)) rfl m.g_passed_over m.F_passed_over.kp m.b_passed_over .nil pass0 (pa_cons (pv 1) (pa_cons (pv 11) (pa_cons (pv 12) pa_nil)))) (pv 13) (fun _ _ => rfl)) (pv 10) (nomark _))))) (pss_one (ps_ret pe_bl)) pss_nil))
      (pssg_one (psg_if (PWg.pt (pwg_and (ptg_of (pt_cmpR op_notN (pe_ix ix_tup (pv 3) (pv 9) (fun _ _ => rfl)) pe_non (nomark _))) (pwg_and1 (ptg_cmpR op_notN (peg_call (ok_worst m) (hr.mono (by decide)) rfl m.g_worst_day m.F_worst_day.kp m.b_worst_day .nil (pa_cons (pv 1) (pa_cons (pv 9) (pa_cons (pe_op op_add (pv 10) pe_int) pa_nil)))) (peg_of pe_non) (nomark _))))) (pssg_one (psg_ret (peg_of pe_bl))) pssg_nil))))))
    (pssg_one (psg_ret (peg_cmpR (op_eqD hr.units) (peg_call (ok_starv m) (hr.mono (by decide)) rfl m.g_starving m.F_starving.kp m.b_starving .nil (pa_cons (pv 1) pa_nil)) (peg_of (pe_tupleOf (by rfl) m.n_tuple (pe_lc (own := [("_law_lane", 9)]) (g := gName 9) rfl sc_days.nd (pi_range1 (by rfl) m.n_range (pa_cons (pv 2) pa_nil))
      (blkOk_by (own := [("_law_lane", 9)]) (N := ["_law_loom_here", "_law_rule_here", "_law_many", "_law_bounds", "_law_row_here", "_law_word_here", "_law_over", "_law_waited", "_law_k", "_law_lane", "_law_count", "_law_some", "_law_text", "_law_car"]) (sc := defScope (topSt 46)) (by decide +kernel)) (fun _ _ _ _ _ => pg_name (i := 9) sc_days.nd rfl (Or.inl rfl))
      (fun _ _ _ _ _ => pts_one (pt_cmpR op_isN (pe_ix ix_tup (pv 3) (pv 9) (fun _ _ => rfl)) pe_non (nomark _))) (fun _ _ _ _ _ => pv 9) (tt := tTest (tOp (fun x y H Q => y = .non ∧ Q (.bl (decide (x = .non))) H) (tOp (rIxT K) (tVar 3) (tVar 9)) (tC .non)))))) (nomark _))))))))), ?_⟩)
  · obtain ⟨a, b, c, r, R, n, rfl, _⟩ := h; rfl
  · obtain ⟨a, b, c, r, R, n, rfl, lo, hc, tt, g, q⟩ := h
    have tt' := tt
    obtain ⟨ra, vs, rfl, ha, hv⟩ := tt
    have lv := paired_len hv
    have gl := g.2.2.1
    have n1 := g.1
    have n6 := g.2.1
    have en : (vs.length : Int) - 1 = (n : Int) := by omega
    refine ⟨_, rfl, _, _, rfl, .inr (.inl ha), _, _, rfl, rfl, _, rfl, .ref ra, R, n, rfl, tt', g, fun v bs H1 e1 ⟨bb, hbb1, hbb⟩ bn => ⟨by show 2 ≤ sizeLine; decide, fun t ht => ?_⟩⟩
    subst hbb1
    refine ⟨t, _, rfl, SqT.of upd_same, rfl, nV n, [V.ref bb], congrArg (fun z => [V.int z, V.ref bb]) en, _, _, rfl, rfl, ?_⟩
    have e2 := e1.put (o := .tup [V.int ((vs.length : Int) - 1), V.ref bb]) ht
    have hb2 := ta_ext hbb (Ext.upd (o := .tup [V.int ((vs.length : Int) - 1), V.ref bb]) ht)
    generalize L2.upd H1 t (.tup [V.int ((vs.length : Int) - 1), V.ref bb]) = H2 at e2 hb2
    have lo2 := lo.ext e2
    have tt2 := tt'.ext e2
    refine ⟨_, rfl, _, rfl, a, b, c, n, 30, rfl, lo2, by omega, n1, by omega, by decide, by decide, fun rv row H3 x3 lo3 ⟨rb, hrb1, hrb⟩ l1 l2 hrow => ?_⟩
    subst hrb1
    have tt3 := tt2.extT (x3.tup lo2)
    have hb3 := ta_extT hb2 (x3.tup lo2)
    refine ⟨_, rfl, _, rfl, rb, _, rfl, .inr (.inl hrb), a, b, _, row.length, by rw [nVs_len]; rfl, lo3, by omega, by omega, fun ws H4 x4 lo4 val cnt wl => ?_⟩
    have tt4 := tt3.extT (x4.tup lo3)
    have hb4 := ta_extT hb3 (x4.tup lo3)
    have hrb4 := ta_extT hrb (x4.tup lo3)
    have x04 : ExtL a b H H4 := (e2.loom.trans x3).trans x4
    have lo4 := lo4.mono (show c + 30 + 1 + 2 * row.length + 1 ≤ c + 200 by omega)
    clear x3 x4 lo3 lo2 hb2 hb3 tt2 tt3 hrb
    refine ⟨_, rfl, _, rfl, _, rfl, .ref ra, R, n, .ref rb, row, ws, rfl, tt4, g, ⟨rb, rfl, hrb4⟩, hrow, by omega, val, by omega, fun ov H5 e5 ⟨ob, hob1, hob⟩ => ⟨_, rfl, _, rfl, _, rfl, .ref ra, R, n, .ref rb, row, ws, rfl, tt4.ext e5, g, ⟨rb, rfl, ta_ext hrb4 e5⟩, hrow, by omega, val, by omega, fun wv H6 e6 ⟨wb, hwb1, hwb⟩ => ⟨_, _, rfl, ?_⟩⟩⟩
    subst hob1 hwb1
    have hob := ta_ext hob e6
    have hb6 := ta_ext hb4 (e5.trans e6)
    have hrb6 := ta_ext hrb4 (e5.trans e6)
    have tt6 := tt4.ext (e5.trans e6)
    have x06 : ExtL a b H H6 := x04.trans (e5.trans e6).loom
    have lo6 := lo4.ext (e5.trans e6)
    clear x04 lo4 hb4 hrb4 tt4 e5 e6
    obtain ⟨ol, wl2, olw⟩ := over_le_waits row (dayRun R row day0 ws) (List.replicate (ws.count true) 0) (List.replicate (ws.count true) 0) rfl fun _ _ => Nat.le_refl _
    rw [List.length_replicate, cnt] at ol wl2 olw
    have obd : ∀ k b', k < row.length → bs[laneOf row k]? = some (some b') → (overM row (List.replicate (ws.count true) 0) (dayRun R row day0 ws)).getD k 0 ≤ b' := fun k b' hk hb => over_le g hrow val (by rw [cnt]; exact hk) (bn.2 _ _ hb)
    rw [cnt] at obd hob hwb
    generalize overM row (List.replicate row.length 0) (dayRun R row day0 ws) = OV at ol olw obd hob
    generalize waitsM (List.replicate row.length 0) (dayRun R row day0 ws) = WT at wl2 olw hwb
    have bl := bn.1
    have bat : ∀ l, l < n → ∃ o, bs[l]? = some o ∧ (bs.map lastV)[l]? = some (lastV o) := fun l hl => ⟨bs[l]'(by omega), List.getElem?_eq_getElem (by omega), by rw [List.getElem?_map, List.getElem?_eq_getElem (show l < bs.length by omega)]; rfl⟩
    refine ⟨_, rfl, rb, _, rfl, .inr (.inl hrb6), (row.length : Int), by rw [nVs_len], by omega, by omega, ?_⟩
    have er : ((row.length : Nat) : Int).toNat = row.length := rfl
    rw [er]
    refine for_range (lo := 0) (n := row.length) (fun i σ' H' => H' = H6 ∧ ∃ x8, σ' = [some (V.ref a), some (V.ref ra), some (nV n), some (V.ref bb), some (V.ref rb), some (V.str (wordS ws)), some (V.ref ob), some (V.ref wb), x8, none, none, none, none, none]) ⟨rfl, _, rfl⟩ (fun i σ' H' hi p => ?_) fun σ' H' p => ?_
    · obtain ⟨rfl, x8, rfl⟩ := p
      rw [Int.zero_add]
      have h1 := olw i (by omega)
      refine ⟨_, rfl, _, rfl, ob, _, (i : Int), _, rfl, rfl, .inl hob, atI_nat (getD_at (by omega)), _, rfl, _, rfl, wb, _, (i : Int), _, rfl, rfl, .inl hwb, atI_nat (getD_at (by omega)), _, _, rfl, rfl, _, rfl, ?_⟩
      show if decide (((WT.getD i 0 : Nat) : Int) < ((OV.getD i 0 : Nat) : Int)) = true then _ else _
      rw [decide_eq_false (by omega)]
      have hl := hrow _ (laneOf_mem hi)
      obtain ⟨o, ho1, ho2⟩ := bat _ hl
      refine iteF ⟨_, rfl, _, rfl, _, rfl, rb, _, (i : Int), _, rfl, rfl, .inl hrb6, atI_nat (row_at hi), bb, _, _, _, rfl, rfl, .inl hb6, atI_nat ho2, rfl, _, rfl, ?_⟩
      show if (!decide (lastV o = V.non)) = true then _ else _
      rw [lastV_none]
      cases o with
      | none => exact iteF (iteF ⟨rfl, _, rfl⟩)
      | some b' =>
        have h2 := obd i b' hi ho1
        refine iteT ⟨_, rfl, _, rfl, ob, _, (i : Int), _, rfl, rfl, .inl hob, atI_nat (getD_at (by omega)), _, rfl, _, rfl, _, rfl, rb, _, (i : Int), _, rfl, rfl, .inl hrb6, atI_nat (row_at hi), bb, _, _, _, rfl, rfl, .inl hb6, atI_nat ho2, _, _, rfl, rfl, _, rfl, ?_⟩
        show if decide ((b' : Int) < ((OV.getD i 0 : Nat) : Int)) = true then _ else _
        rw [decide_eq_false (by omega)]
        exact iteF ⟨rfl, _, rfl⟩
    · obtain ⟨rfl, x8, rfl⟩ := p
      refine ⟨_, rfl, (n : Int), rfl, by omega, by omega, ?_⟩
      have enn : ((n : Nat) : Int).toNat = n := rfl
      rw [enn]
      refine forG_range (lo := 0) (n := n) (fun i σ' H'' => Ext H' H'' ∧ ∃ y8 y9 y10 y11 y12 y13, σ' = [some (V.ref a), some (V.ref ra), some (nV n), some (V.ref bb), some (V.ref rb), some (V.str (wordS ws)), some (V.ref ob), some (V.ref wb), y8, y9, y10, y11, y12, y13]) ⟨Ext.rfl, _, _, _, _, _, _, rfl⟩ (fun i σ' H7 hi p => ?_) fun σ' H7 p => ?_
      · obtain ⟨e7, y8, y9, y10, y11, y12, y13, rfl⟩ := p
        rw [Int.zero_add]
        obtain ⟨o, ho1, ho2⟩ := bat _ hi
        have bo := bn.2 _ _ ho1
        have hb7 := ta_ext hb6 e7
        have tt7 := tt6.ext e7
        have c20 : o.getD 20 ≤ 20 := by
          cases o with
          | none => exact Nat.le_refl _
          | some b' =>
            obtain ⟨nr, _, s, _, c, hc1, hc2⟩ := bo
            have := chn_le (fun s y hy => (gr_lt g s y hy).1) nr hc1
            show b' ≤ 20
            omega
        refine ⟨fun σ' H8 => H8 = H7 ∧ σ' = [some (V.ref a), some (V.ref ra), some (nV n), some (V.ref bb), some (V.ref rb), some (V.str (wordS ws)), some (V.ref ob), some (V.ref wb), y8, some (nV i), some (nV (o.getD 20)), y11, y12, y13], ?_, ?_⟩
        · refine ⟨_, rfl, _, rfl, bb, _, _, _, rfl, rfl, .inl hb7, atI_nat ho2, rfl, _, rfl, ?_⟩
          show if decide (lastV o = V.non) = true then _ else _
          rw [lastV_none]
          cases o with
          | none => exact iteT ⟨rfl, rfl⟩
          | some b' => exact iteF ⟨_, rfl, _, rfl, bb, _, _, _, rfl, rfl, .inl hb7, atI_nat ho2, rfl, rfl⟩
        rintro σ' H8 ⟨rfl, rfl⟩
        refine ⟨_, rfl, _, rfl, _, rfl, .ref ra, R, n, i, o.getD 20, rfl, tt7, g, hi, by omega, fun t rv o' c' H9 e9 ht hrv ho' hc' lc => ?_, fun H9 e9 no sh => ?_⟩
        · obtain ⟨tr, rfl, htr⟩ := hrv
          obtain ⟨w1, w2, w3, w4, w5⟩ := wd_facts g hi ho' hc'
          rw [lc] at w1 w2 w3 w5
          have wlen := wd_len o' i c'
          have ol1 : o'.toList.length ≤ 1 := by cases o' <;> simp
          have wln := wd_lane o' i c'
          have kr : o'.toList.length < (wdRow o' i c').length := by omega
          refine ⟨t, _, rfl, .inl ht, rfl, _, _, rfl, _, _, rfl, _, _, rfl, rfl, ?_⟩
          refine ⟨_, rfl, _, rfl, tr, _, _, _, rfl, rfl, .inl htr, atI_nat (row_at kr), _, rfl, rfl, _, rfl, ?_⟩
          show if (!decide (nV (laneOf (wdRow o' i c') o'.toList.length) = V.int (i : Int))) = true then _ else _
          rw [wln, decide_eq_true rfl]
          refine iteF ⟨_, rfl, _, rfl, _, rfl, .ref ra, R, n, .ref tr, wdRow o' i c', wdWord o' (o.getD 20), rfl, tt7.ext e9, g, ⟨tr, rfl, htr⟩, w4, by omega, w1, by omega, fun ov2 H10 e10 ⟨ob2, hob21, hob2⟩ => ?_⟩
          subst hob21
          rw [w2] at hob2
          refine ⟨_, rfl, ob2, _, _, _, rfl, rfl, .inl hob2, atI_nat (getD_at ?_), _, rfl, rfl, _, rfl, ?_⟩
          · have := (over_le_waits (wdRow o' i c') (dayRun R (wdRow o' i c') day0 (wdWord o' (o.getD 20))) (List.replicate (wdRow o' i c').length 0) (List.replicate (wdRow o' i c').length 0) rfl fun _ _ => Nat.le_refl _).1
            rw [this, List.length_replicate]; exact kr
          show if (!decide (nV ((overM (wdRow o' i c') (List.replicate (wdRow o' i c').length 0) (dayRun R (wdRow o' i c') day0 (wdWord o' (o.getD 20)))).getD o'.toList.length 0) = nV (o.getD 20))) = true then _ else _
          rw [w5, decide_eq_true rfl]
          have e710 := e7.trans (e9.trans e10)
          have hb10 := ta_ext hb7 (e9.trans e10)
          refine iteF ⟨_, rfl, _, rfl, bb, _, _, _, rfl, rfl, .inl hb10, atI_nat ho2, rfl, _, rfl, ?_⟩
          show if (!decide (lastV o = V.non)) = true then _ else _
          rw [lastV_none]
          cases o with
          | none => exact iteF (iteF ⟨e710, _, _, _, _, _, _, rfl⟩)
          | some b' =>
            refine iteT ⟨_, rfl, _, rfl, _, rfl, _, _, rfl, rfl, .ref ra, R, n, i, b' + 1, rfl, tt7.ext (e9.trans e10), g, hi, by have : b' ≤ 20 := c20; omega, fun t3 rv3 o3 c3 H11 e11 ht3 hrv3 ho3 hc3 lc3 => ?_, fun H11 e11 no3 sh3 => ⟨rfl, _, rfl, ?_⟩⟩
            · exfalso
              have s3 : spot o3 < (gr R i).length := by
                rw [gr_len, gl]
                cases o3 with
                | none => exact Nat.succ_pos _
                | some f => exact Nat.succ_lt_succ (ho3 f rfl)
              have := bo.2.1 _ s3 c3 hc3
              omega
            · show if (!decide (V.non = V.non)) = true then _ else _
              rw [decide_eq_true rfl]
              exact iteF ⟨e710.trans e11, _, _, _, _, _, _, rfl⟩
        · exfalso
          cases o with
          | none => exact no bo
          | some b' =>
            obtain ⟨_, _, s, hs, c, hc1, hc2⟩ := bo
            have h1 := sh s (by rw [gr_len, gl] at hs; exact hs) c hc1
            have h2 : (some b').getD 20 = b' := rfl
            omega
      · obtain ⟨e7, y8, y9, y10, y11, y12, y13, rfl⟩ := p
        refine ⟨_, rfl, .ref ra, R, n, rfl, tt6.ext e7, g, fun v bs' H8 e8 bn' ⟨sb, hsb1, hsb⟩ => ?_⟩
        subst hsb1
        obtain rfl := bnds_one bn bn'
        have hb8 := ta_ext hb6 (e7.trans e8)
        refine ⟨_, rfl, (n : Int), rfl, by omega, by omega, fun D new => ?_⟩
        rw [enn]
        refine lc_range (lo := 0) (n := n) (LcP H8 D fun i acc _ => acc = nVs ((List.range i).filter fun l => (bs[l]?).getD (some 0) == none)) (LcP.start new rfl) (fun i H9 hi p => ?_) fun H9 p => ?_
        · obtain ⟨e9, acc, hD, hacc, hp⟩ := p
          obtain ⟨o, ho1, ho2⟩ := bat _ hi
          rw [Int.zero_add]
          refine ⟨wipe_one _ 9 _, _, rfl, _, rfl, bb, _, _, _, rfl, rfl, .inl (ta_ext hb8 e9), atI_nat ho2, rfl, _, rfl, ?_⟩
          show if decide (lastV o = V.non) = true then _ else _
          rw [lastV_none]
          have fl : (List.range (i + 1)).filter (fun l => (bs[l]?).getD (some 0) == none) = (List.range i).filter (fun l => (bs[l]?).getD (some 0) == none) ++ (if o.isNone then [i] else []) := by
            rw [List.range_succ, List.filter_append]
            congr 1
            rw [List.filter_cons, ho1]
            cases o <;> rfl
          cases o with
          | none => exact iteT ⟨_, rfl, LcP.put new e9 hD hacc (by omega) Ext.rfl (by rw [fl, hp, nVs_app]; rfl)⟩
          | some k => exact iteF (LcP.skip e9 hD hacc Ext.rfl (by rw [fl, hp]; simp))
        · obtain ⟨e9, acc, hD, hacc, hp⟩ := p
          have hp2 : acc = nVs (noneAt bs) := by rw [hp]; unfold noneAt; rw [bl]
          subst hp2
          refine .inl ⟨D, _, rfl, SqL.of hD, fun t3 ht3 => ⟨.tuple ((noneAt bs).map fun n : Nat => PyData.int (n : Int)), .tuple ((noneAt bs).map fun n : Nat => PyData.int (n : Int)), .tup (.inl (ta_ext hsb (e9.put ht3))) (dp_nVs _), .tup (SqT.of upd_same) (dp_nVs _), shaped_ints _, shaped_ints _, ?_⟩⟩
          rw [SeqAt.eqv_refl _ (by
            have := shaped_ints (noneAt bs)
            unfold SeqAt.shaped at this
            exact (Bool.and_eq_true_iff.mp this).1)]
          exact q _ (x06.trans (((e7.trans e8).trans e9).put ht3).loom) (lo6.ext (((e7.trans e8).trans e9).put ht3))
end
end GG
/-! D17: _law_favoured_right. -/
namespace GG
open PySem
open PySem.Spec
open PyProof.Rows
open L2
open RR
open StX

theorem fav_prm {p : List Nat} {n l : Nat} (h : Prm p n) (hl : l < n) : Prm (l :: p.filter fun x => x != l) n := by
  have hm := prm_mem h hl
  have fl := filter_len h.2.2 hm
  refine ⟨by rw [List.length_cons, fl, h.1], fun x hx => ?_, List.nodup_cons.mpr ⟨fun z => by simpa using (List.mem_filter.mp z).2, h.2.2.filter _⟩⟩
  rcases List.mem_cons.mp hx with rfl | hx
  · exact hl
  · exact h.2.1 x (List.mem_filter.mp hx).1
theorem fav_good {R : List (List Nat)} {n l : Nat} {o : Option Nat} (g : Good n R) (hl : l < n) (ho : spot o < n + 1) : Good n (favd R l o) := by
  refine ⟨g.1, g.2.1, by unfold favd; rw [List.length_set]; exact g.2.2.1, fun p hp => ?_⟩
  rcases mem_set hp with hp | rfl
  · exact g.2.2.2 p hp
  · have hs : spot o < R.length := by rw [g.2.2.1]; exact ho
    rw [List.getElem?_eq_getElem hs]
    exact fav_prm (g.2.2.2 _ (List.getElem_mem hs)) hl
theorem fav_row {R : List (List Nat)} {l s y : Nat} {o : Option Nat} (h : y ∈ rowAt (gr (favd R l o) l) s) : y ∈ rowAt (gr R l) s ∧ s ≠ spot o := by
  rw [gr_row] at h ⊢
  unfold favd at h
  rw [List.getElem?_set] at h
  by_cases hs : spot o = s
  · rw [if_pos hs] at h
    exfalso
    split at h
    · have e : ahead l ((some (l :: ((R[spot o]?).getD []).filter fun x => x != l)).getD []) = [] := by
        show (l :: _).takeWhile _ = []
        rw [List.takeWhile_cons, if_neg (by simp)]
      rw [e] at h; cases h
    · cases h
  · rw [if_neg hs] at h
    exact ⟨h, fun z => hs z.symm⟩
theorem bound_mono {G G' : List (List Nat)} {b : Nat} {o : Option Nat} (hl : G'.length = G.length) (h : ∀ s y, y ∈ rowAt G' s → y ∈ rowAt G s) (hb : BoundG G (some b)) (ho : BoundG G' o) : ∃ b', o = some b' ∧ b' ≤ b := by
  cases o with
  | none =>
    obtain ⟨x, t, r⟩ := ho
    exact absurd ⟨x, t, ring_congr h r⟩ hb.1
  | some b' =>
    obtain ⟨_, _, s, hs, c, hc, rfl⟩ := ho
    exact ⟨_, rfl, hb.2.1 s (hl ▸ hs) c (chn_congr h hc)⟩
theorem bound_zero {G : List (List Nat)} {o : Option Nat} (hl : 0 < G.length) (h : ∀ s y, y ∉ rowAt G s) (ho : BoundG G o) : o = some 0 :=
  bound_one ho (bound_pot (fun _ => 0) (fun s y hy => absurd hy (h s y)) (fun _ _ => Nat.le_refl _) ⟨0, hl, [], trivial, rfl⟩)
section
variable {Z : Result → Shared → Prop} {w : World} {K : PySem.W.Frag} {mg : Str → Option Value} {base : Heap}
def spFavR : Sp := fun vs H Q _ => ∃ a b c r R n, vs = [.ref a, r] ∧ Loom a b c H ∧ c + 10 < 2 ^ 32 ∧ Tt H r R ∧ Good n R ∧ ∀ H', ExtL a b H H' → Loom a b (c + 10) H' → Q (.bl true) H'
theorem sc_favR : FnScope ["_law_loom_here", "_law_rule_here", "_law_many", "_law_lane", "_law_item", "_law_early", "_law_later", "_law_q"] ["_law_loom_here", "_law_rule_here"] (defScope (topSt 47)) := ⟨rfl, rfl, rfl, by decide +kernel, rfl, by decide +kernel, by decide +kernel⟩
theorem ok_favR (m : Md K mg) : FnG Z PW w K mg base 19 (He.ga K "_law_favoured_right") m.d__law_favoured_right ["_law_loom_here", "_law_rule_here"] spFavR := by
  refine Fun.okG (k := 18) (He5.fun_of m.F__law_favoured_right) sc_favR (fun vs H Q E h => ?_) (fun cdv A outer s H vs Q hr h => ⟨_, pssg_cons (psg_of (ps_set (i := 2) sc_favR.nd rfl (Or.inl rfl) (pe_op op_sub (pe_callB call_len_seq (by rfl) m.n_len PySem.boot_len (pa_cons (pv 1) pa_nil)) pe_int)))
    (pssg_cons (psg_of (ps_par (i := 3) (j := 4) rfl sc_favR.nd rfl rfl (by decide) rfl rfl (pa_cons (pe_call (ok_weave m) (hr.mono (by decide)) rfl m.g__law_weave m.F__law_weave.kp m.b__law_weave .nil pass0 (pa_cons (pv 0) (pa_cons (pv 2) pa_nil))) (pa_cons (pe_ix ix_list (pe_lst (pa_cons pe_non (pa_cons (pe_call (ok_weave m) (hr.mono (by decide)) rfl m.g__law_weave m.F__law_weave.kp m.b__law_weave .nil pass0 (pa_cons (pv 0) (pa_cons (pv 2) pa_nil))) pa_nil))) (pe_call (ok_weave m) (hr.mono (by decide)) rfl m.g__law_weave m.F__law_weave.kp m.b__law_weave .nil pass0 (pa_cons (pv 0) (pa_cons pe_int pa_nil))) (fun _ _ => rfl)) pa_nil)) (by rfl)))
    (pssg_cons (psg_par (i := 5) (j := 6) rfl sc_favR.nd rfl rfl (by decide) rfl rfl (pag_cons (peg_call (ok_bound m) (hr.mono (by decide)) rfl m.g_bound_of m.F_bound_of.kp m.b_bound_of .nil (pa_cons (pv 1) (pa_cons (pv 3) pa_nil))) (pag_cons (peg_call (ok_bound m) (hr.mono (by decide)) rfl m.g_bound_of m.F_bound_of.kp m.b_bound_of .nil (pa_cons (pe_call (ok_favoured m) (hr.mono (by decide)) rfl m.g_favoured m.F_favoured.kp m.b_favoured .nil pass0 (pa_cons (pv 1) (pa_cons (pv 3) (pa_cons (pv 4) pa_nil)))) (pa_cons (pv 3) pa_nil))) (pag_of pa_nil))) (by rfl))
    (pssg_cut (psg_of (ps_if (PW.pt (pw_and (pt_cmpR op_notN (pv 5) pe_non (nomark _)) (pw_and1 (PW.pt (pw_or (pt_cmpR op_isN (pv 6) pe_non (nomark _)) (pw_or1 (pt_cmpR op_gt (pv 6) (pv 5) (nomark _)))))))) (pss_one (ps_ret pe_bl)) pss_nil))
    (pssg_cons (psg_of (ps_for PassesOwn.never rfl (pi_list (pe_op op_cat (pe_lst (pa_cons pe_non pa_nil)) (pe_listRg rfl (by rfl) m.n_list (prg_1 (by rfl) m.n_range (pv 2))))) (pg_name (i := 7) sc_favR.nd rfl (Or.inl rfl)) (pss_one (ps_set (i := 1) sc_favR.nd rfl (Or.inl rfl) (pe_call (ok_favoured m) (hr.mono (by decide)) rfl m.g_favoured m.F_favoured.kp m.b_favoured .nil pass0 (pa_cons (pv 1) (pa_cons (pv 3) (pa_cons (pv 7) pa_nil))))))))
    (pssg_one (psg_ret (peg_cmpR op_eq (peg_call (ok_bound m) (hr.mono (by decide)) rfl m.g_bound_of m.F_bound_of.kp m.b_bound_of .nil (pa_cons (pv 1) (pa_cons (pv 3) pa_nil))) (peg_of pe_int) (nomark _)))))))), ?_⟩)
  · obtain ⟨a, b, c, r, R, n, rfl, _⟩ := h; rfl
  · obtain ⟨a, b, c, r, R, n, rfl, lo, hc, tt, g, q⟩ := h
    have tt' := tt
    obtain ⟨ra, vs, rfl, ha, hv⟩ := tt
    have lv := paired_len hv
    have gl := g.2.2.1
    have n1 := g.1
    have n6 := g.2.1
    have en : (vs.length : Int) - 1 = (n : Int) := by omega
    have en2 : V.int ((vs.length : Int) - 1) = nV n := congrArg V.int en
    refine ⟨_, rfl, _, _, rfl, .inr (.inl ha), _, _, rfl, rfl, ?_⟩
    dsimp only
    rw [en]
    refine ⟨_, rfl, _, rfl, a, b, c, n, rfl, lo, by omega, n1, by omega, fun l H1 hl x1 lo1 => ⟨_, rfl, _, rfl, a, b, c + 1, n, rfl, lo1, by omega, n1, by omega, fun it H2 hit x2 lo2 => ⟨by show 2 ≤ sizeLine; decide, fun L hL => ?_⟩⟩⟩
    have nL := lo2.ne hL
    have lo3 := lo2.ext (Ext.upd (o := .lst [V.non, nV it]) hL)
    refine ⟨_, rfl, a, b, c + 1 + 1, 2, rfl, lo3, by omega, by decide, by decide, fun kk H4 hk x4 lo4 => ?_⟩
    have hL4 := x4 L _ nL.1 nL.2 upd_same
    obtain ⟨o, ho1, ho2⟩ : ∃ o : Option Nat, [V.non, nV it][kk]? = some (lastV o) ∧ spot o < n + 1 := by
      match kk, hk with
      | 0, _ => exact ⟨none, rfl, Nat.succ_pos _⟩
      | 1, _ => exact ⟨some it, rfl, Nat.succ_lt_succ hit⟩
    refine ⟨L, _, (kk : Int), lastV o, rfl, rfl, SqL.of hL4, atI_nat ho1, _, _, rfl, ?_⟩
    have x04 : ExtL a b H H4 := ((x1.trans x2).trans (Ext.upd hL).loom).trans x4
    have tt4 := tt'.extT (x04.tup lo)
    have lo4 := lo4.mono (show c + 1 + 1 + 1 ≤ c + 10 by omega)
    clear x1 x2 x4 lo1 lo2 lo3 hL4 hL nL
    have fp : ∀ p ∈ R, p.length ≤ 60 := fun p hp => by rw [(g.2.2.2 p hp).1]; omega
    refine ⟨_, rfl, _, rfl, .ref ra, R, n, l, rfl, tt4, g, hl, fun o1 H5 e5 b1 => ⟨_, rfl, _, rfl, _, rfl, .ref ra, R, l, o, rfl, tt4.ext e5, by omega, by omega, by omega, fp, fun v H6 e6 tv => ⟨_, rfl, v, favd R l o, n, l, rfl, tv, fav_good g hl ho2, hl, fun o2 H7 e7 b2 => ⟨_, _, rfl, ?_⟩⟩⟩⟩
    have e47 := (e5.trans e6).trans e7
    refine ⟨fun σ' H' => H' = H7 ∧ σ' = [some (V.ref a), some (V.ref ra), some (nV n), some (nV l), some (lastV o), some (lastV o1), some (lastV o2), none], ?_, ?_⟩
    · refine ⟨_, rfl, rfl, _, rfl, ?_⟩
      show if (!decide (lastV o1 = V.non)) = true then _ else _
      rw [lastV_none]
      cases o1 with
      | none => exact iteF (iteF ⟨rfl, rfl⟩)
      | some bb =>
        obtain ⟨b', rfl, hb'⟩ := bound_mono (G' := gr (favd R l o) l) (by rw [gr_len, gr_len]; unfold favd; rw [List.length_set]) (fun s y hy => (fav_row hy).1) b1 b2
        refine iteT ⟨_, rfl, rfl, _, rfl, ?_⟩
        show if decide (lastV (some b') = V.non) = true then _ else _
        rw [lastV_none]
        refine iteF ⟨_, rfl, _, rfl, _, _, rfl, rfl, _, rfl, ?_⟩
        show if decide ((bb : Int) < (b' : Int)) = true then _ else _
        rw [decide_eq_false (by omega)]
        exact iteF ⟨rfl, rfl⟩
    rintro σ' H' ⟨rfl, rfl⟩
    refine ⟨by show 1 ≤ sizeLine; decide, fun A1 hA1 => ⟨_, rfl, _, rfl, RgOk.of_le (by omega) (by omega) (by omega) (by omega), fun A2 hA2 => ?_⟩⟩
    rw [rg_nat]
    refine ⟨A1, A2, _, _, rfl, rfl, Ext.upd hA2 _ _ upd_same, upd_same, by rw [nVs_len, List.length_range, sizeLine_eq]; show 1 + n ≤ _; omega, fun A3 hA3 => ?_⟩
    have e8 := ((Ext.upd (o := .lst [V.non]) hA1).put (o := .lst (nVs (List.range n))) hA2).put (o := .lst ([V.non] ++ nVs (List.range n))) hA3
    have h3 : L2.upd (L2.upd (L2.upd H' A1 (.lst [V.non])) A2 (.lst (nVs (List.range n)))) A3 (.lst ([V.non] ++ nVs (List.range n))) A3 = some (.lst (V.non :: nVs (List.range n))) := upd_same
    generalize L2.upd (L2.upd (L2.upd H' A1 (.lst [V.non])) A2 (.lst (nVs (List.range n)))) A3 (.lst ([V.non] ++ nVs (List.range n))) = H8 at e8 h3
    have lxs : (V.non :: nVs (List.range n)).length = n + 1 := by rw [List.length_cons, nVs_len, List.length_range]
    have e48 := e47.trans e8
    refine ⟨A3, rfl, ⟨_, SqL.of h3⟩, for_list (xs := V.non :: nVs (List.range n)) (fun i σ' H'' => Ext H8 H'' ∧ ∃ rv R' x7, σ' = [some (V.ref a), some rv, some (nV n), some (nV l), some (lastV o), some (lastV o1), some (lastV o2), x7] ∧ Tt H'' rv R' ∧ Good n R' ∧ ∀ s, s < i → ∀ y, y ∉ rowAt (gr R' l) s) ⟨Ext.rfl, _, R, _, rfl, tt4.ext e48, g, fun s hs => by omega⟩ (fun i σ' H'' _ p => SqL.of (p.1 _ _ h3)) (fun i x σ' H9 hx p => ?_) fun σ' H9 p => ?_⟩
    · obtain ⟨e9, rv, R', x7, rfl, tr, gR, hdone⟩ := p
      obtain ⟨oq, rfl, hq⟩ : ∃ oq : Option Nat, x = lastV oq ∧ spot oq = i := by
        cases i with
        | zero => exact ⟨none, (Option.some.inj hx).symm, rfl⟩
        | succ j =>
          have hx' : (nVs (List.range n))[j]? = some x := hx
          obtain ⟨y, hy, rfl⟩ := nVs_get hx'
          have hj := get_len hy
          rw [List.getElem?_eq_getElem hj, List.getElem_range] at hy
          obtain rfl : j = y := Option.some.inj hy
          exact ⟨some j, rfl, rfl⟩
      have hi := get_len hx
      rw [lxs] at hi
      have gRl := gR.2.2.1
      refine ⟨_, rfl, _, rfl, _, rfl, rv, R', l, oq, rfl, tr, by omega, by omega, by omega, (fun p hp => by rw [(gR.2.2.2 p hp).1]; omega), fun v2 H10 e10 tv2 => ⟨e9.trans e10, v2, favd R' l oq, _, rfl, tv2, fav_good gR hl (by omega), fun s hs y hy => ?_⟩⟩
      obtain ⟨h1, h2⟩ := fav_row hy
      exact hdone s (by omega) y h1
    · obtain ⟨e9, rv, R', x7, rfl, tr, gR, hdone⟩ := p
      rw [lxs] at hdone
      have gRl := gR.2.2.1
      refine ⟨_, rfl, _, rfl, rv, R', n, l, rfl, tr, gR, hl, fun o3 H10 e10 b3 => ?_⟩
      have ez := bound_zero (G := gr R' l) (by rw [gr_len]; omega) (fun s y hy => by
        by_cases hs : s < n + 1
        · exact hdone s hs y hy
        · rw [gr_row, List.getElem?_eq_none (by omega)] at hy
          cases hy) b3
      subst ez
      refine ⟨rfl, ?_⟩
      show Q (.bl (decide (nV 0 = V.int 0))) H10
      rw [show decide (nV 0 = V.int 0) = true from rfl]
      exact q _ (x04.trans ((e48.trans e9).trans e10).loom) (lo4.ext ((e48.trans e9).trans e10))
end
end GG
/-! M4: the named rules in plain Lean. -/
namespace GG

/-! ### turns -/
def potT (n l s : Nat) : Nat := if s = 0 then l else if s - 1 < l then l - 1 - (s - 1) else if s - 1 = l then n - 1 else n - 1 - (s - 1) + l
def chnB (G : List (List Nat)) : Nat → List Nat → Bool
  | _, [] => true
  | s, y :: c => ((G[s]?).getD []).contains y && chnB G (1 + y) c
theorem chnB_ok {G : List (List Nat)} : ∀ {s : Nat} {c : List Nat}, chnB G s c = true → Chn G s c
  | _, [], _ => trivial
  | s, y :: c, h => by
    unfold chnB at h
    obtain ⟨h1, h2⟩ := Bool.and_eq_true_iff.mp h
    exact ⟨List.contains_iff_mem.mp h1, chnB_ok h2⟩
def turnsC (n l : Nat) : List Nat := (List.range (n - 1 - l)).map (fun i => l + 1 + i) ++ List.range l
theorem turns_pot : ∀ n : Fin 7, ∀ l : Fin 7, l.1 < n.1 → ∀ s : Fin 7, ∀ y ∈ rowAt (gr (turnsOf n.1) l.1) s.1, potT n.1 l.1 (1 + y) < potT n.1 l.1 s.1 := by decide +kernel
theorem turns_bd : ∀ n : Fin 7, ∀ l : Fin 7, l.1 < n.1 → ∀ s : Fin 8, s.1 < n.1 + 1 → potT n.1 l.1 s.1 ≤ n.1 - 1 := by decide +kernel
theorem turns_ch : ∀ n : Fin 7, ∀ l : Fin 7, l.1 < n.1 → chnB (gr (turnsOf n.1) l.1) (1 + l.1) (turnsC n.1 l.1) = true ∧ (turnsC n.1 l.1).length = n.1 - 1 := by decide +kernel
theorem turns_len (n : Nat) : (turnsOf n).length = n + 1 := by unfold turnsOf; rw [List.length_cons, List.length_map, List.length_range]
theorem turns_bound {n l : Nat} (h6 : n ≤ 6) (hl : l < n) : BoundG (gr (turnsOf n) l) (some (n - 1)) := by
  have hn : n < 7 := by omega
  refine bound_pot (potT n l) (fun s y hy => ?_) (fun s hs => ?_) ⟨1 + l, by rw [gr_len, turns_len]; omega, turnsC n l, ?_, ?_⟩
  · by_cases hs : s < 7
    · exact turns_pot ⟨n, hn⟩ ⟨l, by omega⟩ hl ⟨s, hs⟩ y hy
    · exfalso
      rw [gr_row, List.getElem?_eq_none (by rw [turns_len]; omega)] at hy
      cases hy
  · rw [gr_len, turns_len] at hs
    exact turns_bd ⟨n, hn⟩ ⟨l, by omega⟩ hl ⟨s, by omega⟩ hs
  · exact chnB_ok (turns_ch ⟨n, hn⟩ ⟨l, by omega⟩ hl).1
  · exact (turns_ch ⟨n, hn⟩ ⟨l, by omega⟩ hl).2
theorem turns_bnds {n : Nat} (h6 : n ≤ 6) : Bnds (turnsOf n) n (List.replicate n (some (n - 1))) := by
  refine ⟨List.length_replicate .., fun l o h => ?_⟩
  rw [List.getElem?_replicate] at h
  split at h
  · rename_i hl
    have e := Option.some.inj h
    subst e
    exact turns_bound h6 hl
  · cases h
theorem turns_good {n : Nat} (h1 : 1 ≤ n) (h6 : n ≤ 6) : Good n (turnsOf n) := by
  refine ⟨h1, h6, turns_len n, fun p hp => ?_⟩
  have rg : Prm (List.range n) n := ⟨List.length_range, fun x hx => List.mem_range.mp hx, List.nodup_range⟩
  unfold turnsOf at hp
  rcases List.mem_cons.mp hp with rfl | hp
  · exact rg
  · obtain ⟨q, hq, rfl⟩ := List.mem_map.mp hp
    have hq := List.mem_range.mp hq
    refine ⟨by simp only [List.length_append, List.length_drop, List.length_take, List.length_range]; omega, fun x hx => ?_, ?_⟩
    · rcases List.mem_append.mp hx with hx | hx
      · exact List.mem_range.mp (List.mem_of_mem_drop hx)
      · exact List.mem_range.mp (List.mem_of_mem_take hx)
    · have pm : ((List.range n).drop (q + 1) ++ (List.range n).take (q + 1)).Perm (List.range n) := by
        have := (List.perm_append_comm (l₁ := (List.range n).drop (q + 1)) (l₂ := (List.range n).take (q + 1)))
        rw [List.take_append_drop] at this
        exact this
      exact pm.nodup_iff.mpr List.nodup_range
/-! ### ranks -/
theorem ahead_self (a : Nat) (r : List Nat) : ahead a (a :: r) = [] := by
  unfold ahead
  rw [List.takeWhile_cons, if_neg (by simp)]
theorem ahead_head {a c : Nat} (h : a ≠ c) (r : List Nat) : ahead c (a :: r) = a :: ahead c r := by
  unfold ahead
  rw [List.takeWhile_cons, if_pos (by simpa using h)]
def dueOf (l : List Nat) (n : Nat) : List (Option Nat) := (List.replicate n none).set (l.getD 0 0) (some 0)
theorem set_rep {n k l : Nat} {x o : Option Nat} (h : ((List.replicate n (none : Option Nat)).set k x)[l]? = some o) : l < n ∧ (l = k ∧ o = x ∨ l ≠ k ∧ o = none) := by
  have hl := get_len h
  rw [List.length_set, List.length_replicate] at hl
  refine ⟨hl, ?_⟩
  rw [List.getElem?_set] at h
  by_cases hk : k = l
  · rw [if_pos hk] at h
    rw [List.length_replicate, if_pos (by omega)] at h
    exact .inl ⟨hk.symm, (Option.some.inj h).symm⟩
  · rw [if_neg hk, List.getElem?_replicate, if_pos hl] at h
    exact .inr ⟨fun z => hk z.symm, (Option.some.inj h).symm⟩
theorem ranks_row {l : List Nat} {n c s : Nat} : rowAt (gr (List.replicate (n + 1) l) c) s = if s < n + 1 then ahead c l else [] := by
  rw [gr_row, List.getElem?_replicate]
  split <;> rfl
theorem ranks_bnds {l : List Nat} {n : Nat} (pr : Prm l n) (h1 : 1 ≤ n) : Bnds (List.replicate (n + 1) l) n (dueOf l n) := by
  obtain ⟨a, r, rfl⟩ : ∃ a r, l = a :: r := by
    cases l with
    | nil => have := pr.1; simp at this; omega
    | cons a r => exact ⟨a, r, rfl⟩
  refine ⟨by unfold dueOf; rw [List.length_set, List.length_replicate], fun c o h => ?_⟩
  obtain ⟨hc, ⟨hca, ho⟩ | ⟨ne, ho⟩⟩ := set_rep h <;> subst ho
  · have hca : c = a := hca
    refine bound_pot (fun _ => 0) (fun s y hy => ?_) (fun _ _ => Nat.le_refl _) ⟨0, by rw [gr_len, List.length_replicate]; omega, [], trivial, rfl⟩
    exfalso
    rw [ranks_row] at hy
    rw [hca, ahead_self] at hy
    split at hy <;> cases hy
  · have na : a ≠ c := fun z => ne z.symm
    have an := pr.2.1 a List.mem_cons_self
    refine ⟨a, [], trivial, ?_⟩
    show a ∈ rowAt _ (1 + a)
    rw [ranks_row, if_pos (by omega), ahead_head na]
    exact List.mem_cons_self
theorem ranks_good {l : List Nat} {n : Nat} (pr : Prm l n) (h1 : 1 ≤ n) (h6 : n ≤ 6) : Good n (List.replicate (n + 1) l) := ⟨h1, h6, List.length_replicate .., fun p hp => by rw [List.eq_of_mem_replicate hp]; exact pr⟩
/-! ### polite -/
theorem polite_len (l : List Nat) (n : Nat) : (politeOf l n).length = n + 1 := by unfold politeOf; rw [List.length_cons, List.length_map, List.length_range]
theorem polite_row0 (l : List Nat) (n c : Nat) : rowAt (gr (politeOf l n) c) 0 = ahead c l := by rw [gr_row]; rfl
theorem polite_row (l : List Nat) (n c q : Nat) : rowAt (gr (politeOf l n) c) (q + 1) = if q < n then ahead c (l.filter (fun x => x != q) ++ [q]) else [] := by
  rw [gr_row]
  show ahead c ((((List.range n).map fun q => l.filter (fun x => x != q) ++ [q])[q]?).getD []) = _
  by_cases h : q < n
  · rw [if_pos h, List.getElem?_map, List.getElem?_eq_getElem (by rw [List.length_range]; exact h), List.getElem_range]; rfl
  · rw [if_neg h, List.getElem?_eq_none (by rw [List.length_map, List.length_range]; omega)]; rfl
theorem polite_good {l : List Nat} {n : Nat} (pr : Prm l n) (h1 : 1 ≤ n) (h6 : n ≤ 6) : Good n (politeOf l n) := by
  refine ⟨h1, h6, polite_len l n, fun p hp => ?_⟩
  unfold politeOf at hp
  rcases List.mem_cons.mp hp with rfl | hp
  · exact pr
  · obtain ⟨q, hq, rfl⟩ := List.mem_map.mp hp
    have hq := List.mem_range.mp hq
    have hm := prm_mem pr hq
    have fl := filter_len pr.2.2 hm
    refine ⟨by rw [List.length_append]; have := pr.1; simp only [List.length_cons, List.length_nil]; omega, fun x hx => ?_, List.nodup_append.mpr ⟨pr.2.2.filter _, List.nodup_cons.mpr ⟨by simp, List.nodup_nil⟩, fun x hx y hy => ?_⟩⟩
    · rcases List.mem_append.mp hx with hx | hx
      · exact pr.2.1 x (List.mem_filter.mp hx).1
      · obtain rfl : x = q := by simpa using hx
        exact hq
    · obtain rfl : y = q := by simpa using hy
      have := (List.mem_filter.mp hx).2
      simpa using this
theorem filter_head {a q : Nat} (h : a ≠ q) (r : List Nat) : (a :: r).filter (fun x => x != q) = a :: r.filter fun x => x != q := by rw [List.filter_cons, if_pos (by simpa using h)]
theorem filter_out (a : Nat) (r : List Nat) : (a :: r).filter (fun x => x != a) = r.filter fun x => x != a := by rw [List.filter_cons, if_neg (by simp)]
theorem mem_ahead_app {c x : Nat} {p t : List Nat} (h : c ∉ p) (hx : x ∈ p) : x ∈ ahead c (p ++ t) := by
  induction p with
  | nil => cases hx
  | cons y p ih =>
    have hy : y ≠ c := fun z => h (z ▸ List.mem_cons_self)
    rw [List.cons_append, ahead_head hy]
    rcases List.mem_cons.mp hx with rfl | hx
    · exact List.mem_cons_self
    · exact List.mem_cons_of_mem _ (ih (fun z => h (List.mem_cons_of_mem _ z)) hx)
def othOf (l : List Nat) (n : Nat) : List (Option Nat) := if 1 < n then ((List.replicate n (none : Option Nat)).set (l.getD 0 0) (some (min 1 (n - 1)))).set (l.getD 1 0) (some (min 2 (n - 1))) else (List.replicate n (none : Option Nat)).set (l.getD 0 0) (some (min 1 (n - 1)))
section
variable {a : Nat} {r : List Nat} {n : Nat}
theorem polite_first (pr : Prm (a :: r) n) : BoundG (gr (politeOf (a :: r) n) a) (some (min 1 (n - 1))) := by
  have an := pr.2.1 a List.mem_cons_self
  have rows : ∀ s, ∀ y ∈ rowAt (gr (politeOf (a :: r) n) a) s, s = a + 1 ∧ y ≠ a ∧ y < n := fun s y hy => by
    cases s with
    | zero => rw [polite_row0, ahead_self] at hy; cases hy
    | succ q =>
      rw [polite_row] at hy
      by_cases hq : q < n
      · rw [if_pos hq] at hy
        by_cases hqa : a = q
        · refine ⟨by omega, (ahead_ne hy).1, ?_⟩
          rcases List.mem_append.mp (ahead_ne hy).2 with z | z
          · exact pr.2.1 y (List.mem_filter.mp z).1
          · have : y = q := by simpa using z
            omega
        · rw [filter_head hqa, List.cons_append, ahead_self] at hy
          cases hy
      · rw [if_neg hq] at hy; cases hy
  refine bound_pot (fun s => if s = a + 1 then min 1 (n - 1) else 0) (fun s y hy => ?_) (fun s _ => ?_) ?_
  · obtain ⟨rfl, h2, h3⟩ := rows s y hy
    rw [if_neg (by omega), if_pos rfl]
    omega
  · split <;> omega
  · cases r with
    | nil =>
      have h1 : n = 1 := pr.1.symm
      exact ⟨0, by rw [gr_len, polite_len]; omega, [], trivial, by rw [h1]; rfl⟩
    | cons b r =>
      have l2 : n = r.length + 2 := pr.1.symm
      have nab : a ≠ b := fun z => (List.nodup_cons.mp pr.2.2).1 (z ▸ List.mem_cons_self)
      refine ⟨a + 1, by rw [gr_len, polite_len]; omega, [b], ⟨?_, trivial⟩, ?_⟩
      · show b ∈ rowAt _ (a + 1)
        rw [polite_row, if_pos an, filter_out]
        refine mem_ahead_app (fun z => ?_) (List.mem_filter.mpr ⟨List.mem_cons_self, by simpa using fun z => nab z.symm⟩)
        have := (List.mem_filter.mp z).2
        simp at this
      · show 1 = _
        omega
theorem polite_second {b : Nat} (pr : Prm (a :: b :: r) n) : BoundG (gr (politeOf (a :: b :: r) n) b) (some (min 2 (n - 1))) := by
  have an := pr.2.1 a List.mem_cons_self
  have bn := pr.2.1 b (List.mem_cons_of_mem _ List.mem_cons_self)
  have nab : a ≠ b := fun z => (List.nodup_cons.mp pr.2.2).1 (z ▸ List.mem_cons_self)
  have l2 : n = r.length + 2 := pr.1.symm
  have rows : ∀ s, ∀ y ∈ rowAt (gr (politeOf (a :: b :: r) n) b) s, y ≠ b ∧ y < n ∧ s ≠ a + 1 ∧ (s ≠ b + 1 → y = a) := fun s y hy => by
    cases s with
    | zero =>
      rw [polite_row0, ahead_head nab, ahead_self] at hy
      obtain rfl : y = a := by simpa using hy
      exact ⟨nab, an, by omega, fun _ => rfl⟩
    | succ q =>
      rw [polite_row] at hy
      by_cases hq : q < n
      · rw [if_pos hq] at hy
        have yn : y < n := by
          rcases List.mem_append.mp (ahead_ne hy).2 with z | z
          · exact pr.2.1 y (List.mem_filter.mp z).1
          · have : y = q := by simpa using z
            omega
        refine ⟨(ahead_ne hy).1, yn, fun z => ?_, fun z => ?_⟩
        · obtain rfl : q = a := by omega
          rw [filter_out, filter_head (fun z => nab z.symm), List.cons_append, ahead_self] at hy
          cases hy
        · have hqb : q ≠ b := by omega
          by_cases hqa : q = a
          · subst hqa
            rw [filter_out, filter_head (fun z => nab z.symm), List.cons_append, ahead_self] at hy
            cases hy
          · rw [filter_head (fun z => hqa z.symm), filter_head (fun z => hqb z.symm), List.cons_append, List.cons_append, ahead_head nab, ahead_self] at hy
            simpa using hy
      · rw [if_neg hq] at hy; cases hy
  refine bound_pot (fun s => if s = a + 1 then 0 else if s = b + 1 then min 2 (n - 1) else 1) (fun s y hy => ?_) (fun s _ => ?_) ?_
  · obtain ⟨h1, h2, h3, h4⟩ := rows s y hy
    rw [if_neg h3]
    by_cases hs : s = b + 1
    · rw [if_pos hs]
      by_cases hy2 : y = a
      · rw [if_pos (by omega)]; omega
      · rw [if_neg (by omega), if_neg (by omega)]
        omega
    · rw [if_neg hs, if_pos (by have := h4 hs; omega)]
      omega
  · split
    · omega
    · split <;> omega
  · have nb : ∀ r' : List Nat, b ∉ (a :: b :: r').filter fun x => x != b := fun r' z => by
      have := (List.mem_filter.mp z).2
      simp at this
    cases r with
    | nil =>
      have h2 : n = 2 := l2
      refine ⟨b + 1, by rw [gr_len, polite_len]; omega, [a], ⟨?_, trivial⟩, by rw [h2]; rfl⟩
      show a ∈ rowAt _ (b + 1)
      rw [polite_row, if_pos bn]
      exact mem_ahead_app (nb _) (List.mem_filter.mpr ⟨List.mem_cons_self, by simpa using nab⟩)
    | cons c r =>
      have l3 : n = r.length + 3 := l2
      have cn := pr.2.1 c (List.mem_cons_of_mem _ (List.mem_cons_of_mem _ List.mem_cons_self))
      have nd1 := List.nodup_cons.mp pr.2.2
      have nd2 := List.nodup_cons.mp nd1.2
      have nac : a ≠ c := fun z => nd1.1 (z ▸ List.mem_cons_of_mem _ List.mem_cons_self)
      have nbc : b ≠ c := fun z => nd2.1 (z ▸ List.mem_cons_self)
      refine ⟨b + 1, by rw [gr_len, polite_len]; omega, [c, a], ⟨?_, ?_, trivial⟩, ?_⟩
      · show c ∈ rowAt _ (b + 1)
        rw [polite_row, if_pos bn]
        exact mem_ahead_app (nb _) (List.mem_filter.mpr ⟨List.mem_cons_of_mem _ (List.mem_cons_of_mem _ List.mem_cons_self), by simpa using fun z => nbc z.symm⟩)
      · show a ∈ rowAt _ (1 + c)
        rw [Nat.add_comm, polite_row, if_pos cn, filter_head nac, List.cons_append, ahead_head nab]
        exact List.mem_cons_self
      · show 2 = _
        omega
theorem polite_other {b c : Nat} (pr : Prm (a :: b :: r) n) (ha : c ≠ a) (hb : c ≠ b) : BoundG (gr (politeOf (a :: b :: r) n) c) none := by
  have an := pr.2.1 a List.mem_cons_self
  have bn := pr.2.1 b (List.mem_cons_of_mem _ List.mem_cons_self)
  have nab : a ≠ b := fun z => (List.nodup_cons.mp pr.2.2).1 (z ▸ List.mem_cons_self)
  refine ⟨a, [b], ⟨?_, trivial⟩, ?_⟩
  · show b ∈ rowAt _ (1 + a)
    rw [Nat.add_comm, polite_row, if_pos an, filter_out, filter_head (fun z => nab z.symm), List.cons_append, ahead_head (fun z => hb z.symm)]
    exact List.mem_cons_self
  · show a ∈ rowAt _ (1 + b)
    rw [Nat.add_comm, polite_row, if_pos bn, filter_head nab, List.cons_append, ahead_head (fun z => ha z.symm)]
    exact List.mem_cons_self
end
theorem polite_bnds {l : List Nat} {n : Nat} (pr : Prm l n) (h1 : 1 ≤ n) : Bnds (politeOf l n) n (othOf l n) := by
  obtain ⟨a, r, rfl⟩ : ∃ a r, l = a :: r := by
    cases l with
    | nil => have := pr.1; simp at this; omega
    | cons a r => exact ⟨a, r, rfl⟩
  unfold othOf
  cases r with
  | nil =>
    have hn : n = 1 := pr.1.symm
    rw [if_neg (by omega)]
    refine ⟨by rw [List.length_set, List.length_replicate], fun c o h => ?_⟩
    obtain ⟨hc, ⟨hca, ho⟩ | ⟨ne, ho⟩⟩ := set_rep h <;> subst ho
    · have hca : c = a := hca
      rw [hca]
      exact polite_first pr
    · have an := pr.2.1 a List.mem_cons_self
      have ne : c ≠ a := ne
      omega
  | cons b r =>
    have l2 : n = r.length + 2 := pr.1.symm
    have bn := pr.2.1 b (List.mem_cons_of_mem _ List.mem_cons_self)
    have nab : a ≠ b := fun z => (List.nodup_cons.mp pr.2.2).1 (z ▸ List.mem_cons_self)
    rw [if_pos (by omega)]
    refine ⟨by rw [List.length_set, List.length_set, List.length_replicate], fun c o h => ?_⟩
    have e1 : (a :: b :: r).getD 1 0 = b := rfl
    rw [e1] at h
    by_cases hcb : b = c
    · rw [List.getElem?_set, if_pos hcb] at h
      split at h
      · have ho := Option.some.inj h
        subst ho
        rw [← hcb]
        exact polite_second pr
      · cases h
    · rw [List.getElem?_set, if_neg hcb] at h
      obtain ⟨hc, ⟨hca, ho⟩ | ⟨ne, ho⟩⟩ := set_rep h <;> subst ho
      · have hca : c = a := hca
        rw [hca]
        exact polite_first pr
      · exact polite_other pr ne fun z => hcb z.symm
end GG
/-! D18: _law_named_right, law. -/
namespace GG
open PySem
open PySem.Spec
open PyProof.Rows
open L2
open RR
open StX

def optD : Option Nat → PyData
  | none => .none
  | some n => .int (n : Int)
theorem dp_os {K : PySem.W.Frag} {H : Hp} : ∀ os : List (Option Nat), DpAll K H (os.map lastV) (os.map optD)
  | [] => .nil
  | none :: r => .cons .non (dp_os r)
  | some n :: r => .cons (.int _) (dp_os r)
theorem shaped_os (os : List (Option Nat)) : SeqAt.shaped (.tuple (os.map optD)) = true := (shaped_flat fun d hd => by
  obtain ⟨o, _, rfl⟩ := List.mem_map.mp hd
  cases o <;> exact ⟨rfl, rfl⟩).1
theorem eqv_os (os : List (Option Nat)) : PyData.eqv (.tuple (os.map optD)) (.tuple (os.map optD)) = true := SeqAt.eqv_refl _ (by
  have := shaped_os os
  unfold SeqAt.shaped at this
  exact (Bool.and_eq_true_iff.mp this).1)
theorem eq_os {K : PySem.W.Frag} {H : Hp} {a b : Addr} {os : List (Option Nat)} {Q : VK} (ha : Ta H a (os.map lastV)) (hb : Ta H b (os.map lastV)) (q : Q (.bl true) H) : rEqD K (.ref a) (.ref b) H Q :=
  ⟨_, _, .tup (.inl ha) (dp_os os), .tup (.inl hb) (dp_os os), shaped_os os, shaped_os os, by rw [eqv_os]; exact q⟩
theorem ne_os {K : PySem.W.Frag} {H : Hp} {a b : Addr} {os : List (Option Nat)} {Q : VK} (ha : Ta H a (os.map lastV)) (hb : Ta H b (os.map lastV)) (q : Q (.bl false) H) : rNeD K (.ref a) (.ref b) H Q :=
  ⟨_, _, .tup (.inl ha) (dp_os os), .tup (.inl hb) (dp_os os), shaped_os os, shaped_os os, by rw [eqv_os]; exact q⟩
theorem os_set (os : List (Option Nat)) (k : Nat) (o : Option Nat) : (os.map lastV).set k (lastV o) = (os.set k o).map lastV := List.map_set.symm
theorem rep_non (n : Nat) : (List.replicate n [V.non]).flatten = (List.replicate n (none : Option Nat)).map lastV := by rw [flat_one, List.map_replicate]; rfl
theorem min_cast (k n : Nat) (h : 1 ≤ n) : V.int (if (n : Int) - 1 < (k : Int) then (n : Int) - 1 else (k : Int)) = lastV (some (min k (n - 1))) := by
  show _ = V.int ((min k (n - 1) : Nat) : Int)
  congr 1
  split <;> omega
section
variable {Z : Result → Shared → Prop} {w : World} {K : PySem.W.Frag} {mg : Str → Option Value} {base : Heap}
def spNamed : Sp := fun vs H Q _ => ∃ v l n, vs = [v] ∧ Tn H v l ∧ Prm l n ∧ 1 ≤ n ∧ n ≤ 6 ∧ ∀ H', Ext H H' → Q (.bl true) H'
theorem sc_named : FnScope ["_law_lanes", "_law_many", "_law_ranked_here", "_law_polite", "_law_due", "_law_other"] ["_law_lanes"] (defScope (topSt 49)) := ⟨rfl, rfl, rfl, by decide +kernel, rfl, by decide +kernel, by decide +kernel⟩
theorem ok_named (m : Md K mg) : FnG Z PW w K mg base 19 (He.ga K "_law_named_right") m.d__law_named_right ["_law_lanes"] spNamed := by
  refine Fun.okG (k := 18) (He5.fun_of m.F__law_named_right) sc_named (fun vs H Q E h => ?_) (fun cdv A outer s H vs Q hr h => ⟨_, pssg_cons (psg_of (ps_set (i := 1) sc_named.nd rfl (Or.inl rfl) (pe_callB call_len_seq (by rfl) m.n_len PySem.boot_len (pa_cons (pv 0) pa_nil))))
    (pssg_cons (psg_of (ps_asg (pe_call (ok_ranked m) (hr.mono (by decide)) rfl m.g__law_ranked m.F__law_ranked.kp m.b__law_ranked .nil pass0 (pa_cons (pv 0) pa_nil)) (pg_lst rfl (pgs_cons (pg_name (i := 2) sc_named.nd rfl (Or.inl rfl)) (pgs_cons (pg_name (i := 3) sc_named.nd rfl (Or.inl rfl)) pgs_nil)))))
    (pssg_cut (psg_if (ptg_cmpR (op_neD hr.units) (peg_call (ok_laneB m) hr rfl m.g_lane_bounds m.F_lane_bounds.kp m.b_lane_bounds .nil (pa_cons (pe_call (ok_turns_rule m) (hr.mono (by decide)) rfl m.g_turns_rule m.F_turns_rule.kp m.b_turns_rule .nil pass0 (pa_cons (pv 1) pa_nil)) pa_nil)) (peg_of (pe_op op_repA (pe_tup (pa_cons (pe_op op_sub (pv 1) pe_int) pa_nil)) (pv 1))) (nomark _)) (pssg_one (psg_ret (peg_of pe_bl))) pssg_nil)
    (pssg_cons (psg_of (ps_par (i := 4) (j := 5) rfl sc_named.nd rfl rfl (by decide) rfl rfl (pa_cons (pe_op op_rep (pe_lst (pa_cons pe_non pa_nil)) (pv 1)) (pa_cons (pe_op op_rep (pe_lst (pa_cons pe_non pa_nil)) (pv 1)) pa_nil)) (by rfl)))
    (pssg_cons (psg_of (ps_asg (pe_tup (pa_cons pe_int (pa_cons (pe_callB (call_min2 rfl) (by rfl) m.n_min (by decide +kernel) (pa_cons pe_int (pa_cons (pe_op op_sub (pv 1) pe_int) pa_nil))) pa_nil))) (pg_tup rfl (pgs_cons (pg_sub (pv 4) (pe_ix ix_tup (pv 0) pe_int (fun _ _ => rfl)) set_list) (pgs_cons (pg_sub (pv 5) (pe_ix ix_tup (pv 0) pe_int (fun _ _ => rfl)) set_list) pgs_nil)))))
    (pssg_cut (psg_of (ps_if (pt_cmpR op_gt (pv 1) pe_int (nomark _)) (pss_one (ps_asg (pe_callB (call_min2 rfl) (by rfl) m.n_min (by decide +kernel) (pa_cons pe_int (pa_cons (pe_op op_sub (pv 1) pe_int) pa_nil))) (pg_sub (pv 5) (pe_ix ix_tup (pv 0) pe_int (fun _ _ => rfl)) set_list))) pss_nil))
    (pssg_one (psg_ret (peg_and (peg_cmpR (op_eqD hr.units) (peg_call (ok_laneB m) hr rfl m.g_lane_bounds m.F_lane_bounds.kp m.b_lane_bounds .nil (pa_cons (pv 2) pa_nil)) (peg_of (pe_tupleOf (by rfl) m.n_tuple (pv 4))) (nomark _)) (peg_one (peg_cmpR (op_eqD hr.units) (peg_call (ok_laneB m) hr rfl m.g_lane_bounds m.F_lane_bounds.kp m.b_lane_bounds .nil (pa_cons (pv 3) pa_nil)) (peg_of (pe_tupleOf (by rfl) m.n_tuple (pv 5))) (nomark _))))))))))), ?_⟩)
  · obtain ⟨v, l, n, rfl, _⟩ := h; rfl
  · obtain ⟨v, l, n, rfl, ⟨a, rfl, ha⟩, pr, n1, n6, q⟩ := h
    have len : (nVs l).length = n := by rw [nVs_len, pr.1]
    refine ⟨_, rfl, _, _, rfl, .inr (.inl ha), ?_⟩
    rw [len]
    refine ⟨_, rfl, .ref a, l, n, rfl, ⟨a, rfl, ha⟩, pr, n1, n6, fun D r1 r2 H1 e1 hD t1 t2 => ⟨D, _, rfl, SqL.of hD, rfl, _, _, rfl, _, _, rfl, rfl, ?_⟩⟩
    have ha1 := ta_ext ha e1
    have eN : V.int ((n : Int) - 1) = lastV (some (n - 1)) := congrArg V.int (by omega)
    refine ⟨fun σ' H' => Ext H1 H' ∧ σ' = [some (V.ref a), some (nV n), some r1, some r2, none, none], ?_, ?_⟩
    · refine ⟨_, rfl, n, rfl, n1, n6, fun rT H2 e2 tT => ⟨rT, turnsOf n, n, rfl, tT, turns_good n1 n6, fun v bs H3 e3 ⟨sb, hsb1, hsb⟩ bn => ?_⟩⟩
      subst hsb1
      obtain rfl := bnds_one bn (turns_bnds n6)
      have fin : ∀ (p : Addr) (H' : Hp) (Q' : VK), Ext H3 H' → Ta H' p (List.replicate n (V.int ((n : Int) - 1))) → Q' (.bl false) H' → rNeD K (.ref sb) (.ref p) H' Q' := fun p H' Q' e hp q' => by
        rw [eN] at hp
        refine ne_os (ta_ext hsb e) ?_ q'
        rw [List.map_replicate]
        exact hp
      refine ⟨_, rfl, _, _, rfl, rfl, by show 1 ≤ sizeLine; decide, fun tp htp => ⟨_, rfl, tp, _, _, rfl, rfl, .inl (.inl upd_same), by simp, by omega, by omega, by show 1 ≤ 1000; decide, fun hk => ?_, fun hk p hp => ?_⟩⟩
      · have hn1 : n = 1 := by omega
        refine fin tp _ _ (Ext.upd htp) (.inl (by rw [upd_same, hn1]; rfl)) ⟨_, rfl, iteF ⟨((e2.trans e3)).put htp, rfl⟩⟩
      · refine fin p _ _ ((Ext.upd htp).put hp) (.inl (by rw [upd_same, flat_one, Int.toNat_natCast])) ⟨_, rfl, iteF ⟨((e2.trans e3).put htp).put hp, rfl⟩⟩
    rintro σ' H2 ⟨e2, rfl⟩
    refine ⟨by show 1 ≤ sizeLine; decide, fun l1 hl1 => ⟨_, rfl, l1, _, _, rfl, rfl, upd_same, by omega, by omega, by rw [sizeLine_eq]; show 1 * _ ≤ _; omega, fun D1 hD1 => ⟨by show 1 ≤ sizeLine; decide, fun l2 hl2 => ⟨_, rfl, l2, _, _, rfl, rfl, upd_same, by omega, by omega, by rw [sizeLine_eq]; show 1 * _ ≤ _; omega, fun D2 hD2 => ⟨_, _, rfl, ?_⟩⟩⟩⟩⟩
    rw [Int.toNat_natCast, rep_non] at *
    have e3 := ((((Ext.upd (o := .lst [V.non]) hl1).put (o := .lst ((List.replicate n (none : Option Nat)).map lastV)) hD1).put (o := .lst [V.non]) hl2).put (o := .lst ((List.replicate n (none : Option Nat)).map lastV)) hD2)
    have g0 := Ext.upd (o := .lst [V.non]) hl2 D1 (.lst ((List.replicate n (none : Option Nat)).map lastV)) upd_same
    have nD : D1 ≠ D2 := fun z => by rw [← z, g0] at hD2; cases hD2
    have g1 := Ext.upd (o := .lst ((List.replicate n (none : Option Nat)).map lastV)) hD2 D1 _ g0
    have g2 : L2.upd (L2.upd (L2.upd (L2.upd H2 l1 (.lst [V.non])) D1 (.lst ((List.replicate n (none : Option Nat)).map lastV))) l2 (.lst [V.non])) D2 (.lst ((List.replicate n (none : Option Nat)).map lastV)) D2 = some (.lst ((List.replicate n (none : Option Nat)).map lastV)) := upd_same
    have zD1 : H2 D1 = Option.none := (Ext.upd hl1).none hD1
    have zD2 : H2 D2 = Option.none := ((Ext.upd (o := .lst [V.non]) hl1).put (o := .lst ((List.replicate n (none : Option Nat)).map lastV)) hD1).put (o := .lst [V.non]) hl2 |>.none hD2
    generalize L2.upd (L2.upd (L2.upd (L2.upd H2 l1 (.lst [V.non])) D1 (.lst ((List.replicate n (none : Option Nat)).map lastV))) l2 (.lst [V.non])) D2 (.lst ((List.replicate n (none : Option Nat)).map lastV)) = H3 at e3 g1 g2
    have ha3 := ta_ext ha1 (e2.trans e3)
    have lp : 0 < l.length := by rw [pr.1]; omega
    have k0 : l.getD 0 0 < n := by
      rw [List.getD_eq_getElem?_getD, List.getElem?_eq_getElem lp]
      exact pr.2.1 _ (List.getElem_mem lp)
    have lrep : ((List.replicate n (none : Option Nat)).map lastV).length = n := by rw [List.length_map, List.length_replicate]
    have em := min_cast 1 n n1
    refine ⟨_, rfl, _, _, rfl, rfl, _, _, rfl, by show 2 ≤ sizeLine; decide, fun t ht => ?_⟩
    refine ⟨t, _, rfl, SqT.of upd_same, rfl, lastV (some 0), [lastV (some (min 1 (n - 1)))], congrArg (fun z => [V.int 0, z]) em, ?_⟩
    have e4 : Ext H3 (L2.upd H3 t (.tup [V.int 0, V.int (if (n : Int) - 1 < 1 then (n : Int) - 1 else 1)])) := Ext.upd ht
    have g14 := e4 _ _ g1
    have g24 := e4 _ _ g2
    generalize L2.upd H3 t (.tup [V.int 0, V.int (if (n : Int) - 1 < 1 then (n : Int) - 1 else 1)]) = H4 at e4 g14 g24
    have ha4 := ta_ext ha3 e4
    refine ⟨_, rfl, _, rfl, a, _, (0 : Int), nV (l.getD 0 0), rfl, rfl, .inl ha4, atI_nat (getD_at lp), D1, _, _, l.getD 0 0, rfl, rfl, g14, ixN_nat (by rw [lrep]; exact k0), ?_⟩
    rw [os_set]
    have g25 : L2.upd H4 D1 (.lst (((List.replicate n none).set (l.getD 0 0) (some 0)).map lastV)) D2 = some (.lst ((List.replicate n (none : Option Nat)).map lastV)) := by rw [upd_ne (Ne.symm nD)]; exact g24
    have g15 : L2.upd H4 D1 (.lst (((List.replicate n none).set (l.getD 0 0) (some 0)).map lastV)) D1 = some (.lst ((dueOf l n).map lastV)) := upd_same
    have e5 : Ext H2 (L2.upd H4 D1 (.lst (((List.replicate n none).set (l.getD 0 0) (some 0)).map lastV))) := (e3.trans e4).set zD1
    generalize L2.upd H4 D1 (.lst (((List.replicate n none).set (l.getD 0 0) (some 0)).map lastV)) = H5 at e5 g15 g25
    have ha5 := ta_ext ha1 (e2.trans e5)
    refine ⟨_, _, rfl, _, rfl, _, rfl, a, _, (0 : Int), nV (l.getD 0 0), rfl, rfl, .inl ha5, atI_nat (getD_at lp), D2, _, _, l.getD 0 0, rfl, rfl, g25, ixN_nat (by rw [lrep]; exact k0), rfl, ?_⟩
    rw [os_set]
    have g16 : L2.upd H5 D2 (.lst (((List.replicate n none).set (l.getD 0 0) (some (min 1 (n - 1)))).map lastV)) D1 = some (.lst ((dueOf l n).map lastV)) := by rw [upd_ne nD]; exact g15
    have g26 : L2.upd H5 D2 (.lst (((List.replicate n none).set (l.getD 0 0) (some (min 1 (n - 1)))).map lastV)) D2 = some (.lst (((List.replicate n none).set (l.getD 0 0) (some (min 1 (n - 1)))).map lastV)) := upd_same
    have e6 : Ext H2 (L2.upd H5 D2 (.lst (((List.replicate n none).set (l.getD 0 0) (some (min 1 (n - 1)))).map lastV))) := e5.set zD2
    generalize L2.upd H5 D2 (.lst (((List.replicate n none).set (l.getD 0 0) (some (min 1 (n - 1)))).map lastV)) = H6 at e6 g16 g26
    have ha6 := ta_ext ha1 (e2.trans e6)
    refine ⟨fun σ' H' => Ext H2 H' ∧ H' D1 = some (.lst ((dueOf l n).map lastV)) ∧ H' D2 = some (.lst ((othOf l n).map lastV)) ∧ σ' = [some (V.ref a), some (nV n), some r1, some r2, some (V.ref D1), some (V.ref D2)], ?_, ?_⟩
    · refine ⟨_, rfl, _, _, rfl, rfl, _, rfl, ?_⟩
      show if decide ((1 : Int) < (n : Int)) = true then _ else _
      by_cases hn : (1 : Int) < (n : Int)
      · rw [decide_eq_true hn]
        have lp1 : 1 < l.length := by rw [pr.1]; omega
        have k1 : l.getD 1 0 < n := by
          rw [List.getD_eq_getElem?_getD, List.getElem?_eq_getElem lp1]
          exact pr.2.1 _ (List.getElem_mem lp1)
        have em2 := min_cast 2 n n1
        refine iteT ⟨_, rfl, _, _, rfl, rfl, _, _, rfl, _, rfl, _, rfl, a, _, (1 : Int), nV (l.getD 1 0), rfl, rfl, .inl ha6, atI_nat (getD_at lp1), D2, _, _, l.getD 1 0, rfl, rfl, g26, ixN_nat (by rw [List.length_map, List.length_set, List.length_replicate]; exact k1), ?_⟩
        refine ⟨e6.set zD2, by rw [upd_ne nD]; exact g16, ?_, rfl⟩
        rw [upd_same]
        show some (HO.lst ((((List.replicate n none).set (l.getD 0 0) (some (min 1 (n - 1)))).map lastV).set (l.getD 1 0) (V.int (if (n : Int) - 1 < 2 then (n : Int) - 1 else 2)))) = _
        rw [show V.int (if (n : Int) - 1 < 2 then (n : Int) - 1 else 2) = lastV (some (min 2 (n - 1))) from em2, os_set]
        unfold othOf
        rw [if_pos (by omega)]
      · rw [decide_eq_false hn]
        refine iteF ⟨e6, g16, ?_, rfl⟩
        unfold othOf
        rw [if_neg (by omega)]
        exact g26
    rintro σ' H7 ⟨e7, g17, g27, rfl⟩
    have t17 := t1.ext (e2.trans e7)
    have t27 := t2.ext (e2.trans e7)
    refine ⟨_, rfl, r1, _, n, rfl, t17, ranks_good pr n1 n6, fun v bs H8 e8 ⟨sb, hsb1, hsb⟩ bn => ?_⟩
    subst hsb1
    obtain rfl := bnds_one bn (ranks_bnds pr n1)
    refine ⟨_, rfl, .inl ⟨D1, _, rfl, SqL.of (e8 _ _ g17), fun tt1 htt1 => eq_os (ta_ext hsb (Ext.upd htt1)) (.inl upd_same) ⟨true, rfl, iteT ?_⟩⟩⟩
    have e9 := e8.put (o := .tup ((dueOf l n).map lastV)) htt1
    refine ⟨_, rfl, r2, _, n, rfl, t27.ext e9, polite_good pr n1 n6, fun v bs H10 e10 ⟨sb2, hsb21, hsb2⟩ bn2 => ?_⟩
    subst hsb21
    obtain rfl := bnds_one bn2 (polite_bnds pr n1)
    exact ⟨_, rfl, .inl ⟨D2, _, rfl, SqL.of (e10 _ _ (e9 _ _ g27)), fun tt2 htt2 => eq_os (ta_ext hsb2 (Ext.upd htt2)) (.inl upd_same) (q _ (e1.trans (e2.trans (e7.trans ((e9.trans e10).put htt2)))))⟩⟩
end
end GG
/-! D19: law. -/
namespace GG
open PySem
open PySem.Spec
open PyProof.Rows
open L2
open RR
open StX
section
variable {Z : Result → Shared → Prop} {w : World} {K : PySem.W.Frag} {mg : Str → Option Value} {base : Heap}
def spLaw (K : PySem.W.Frag) : Sp := fun vs H Q _ => ∃ (p : Addr) (ns : List Int), vs = [.ref p] ∧ SqL K H p (ns.map V.int) ∧ ns.length ≤ 90 ∧ ∀ H', Q (.bl true) H'
theorem sc_law : FnScope ["_law_script", "_law_loom_here", "_law_turn", "_law_rule_here"] ["_law_script"] (defScope (topSt 50)) := ⟨rfl, rfl, rfl, by decide +kernel, rfl, by decide +kernel, by decide +kernel⟩
theorem ok_law (m : Md K mg) : FnG Z PW w K mg base 23 (He.ga K "law") m.d_law ["_law_script"] (spLaw K) := by
  refine Fun.okG (k := 22) (He5.fun_of m.F_law) sc_law (fun vs H Q E h => ?_) (fun cdv A outer s H vs Q hr h => ⟨_, pssg_cons (psg_of (ps_set (i := 1) sc_law.nd rfl (Or.inl rfl) (pe_call (ok_loom m) (hr.mono (by decide)) rfl m.g__law_loom m.F__law_loom.kp m.b__law_loom .nil pass0 (pa_cons (pv 0) pa_nil))))
    (pssg_cons (psg_for (fun _ _ h => h) rfl (pig_range1 (by rfl) m.n_range (pa_cons pe_int pa_nil)) (pg_name (i := 2) sc_law.nd rfl (Or.inl rfl))
      (pssg_cons (psg_of (ps_set (i := 3) sc_law.nd rfl (Or.inl rfl) (pe_call (ok_rule m) (hr.mono (by decide)) rfl m.g__law_rule m.F__law_rule.kp m.b__law_rule .nil pass0 (pa_cons (pv 1) (pa_cons (pe_ix ix_list (pe_lst (pa_cons pe_int (pa_cons pe_int pa_nil))) (pe_op op_mod (pv 2) pe_int) (fun _ _ => rfl)) pa_nil)))))
      (pssg_cons (psg_if (PWg.pt (pwg_or (ptg_not (ptg_val (peg_call (ok_days m) hr rfl m.g__law_days_right m.F__law_days_right.kp m.b__law_days_right .nil (pa_cons (pv 1) (pa_cons (pv 3) pa_nil))))) (pwg_or1 (ptg_not (ptg_val (peg_call (ok_favR m) (hr.mono (by decide)) rfl m.g__law_favoured_right m.F__law_favoured_right.kp m.b__law_favoured_right .nil (pa_cons (pv 1) (pa_cons (pv 3) pa_nil)))))))) (pssg_one (psg_ret (peg_of pe_bl))) pssg_nil)
      (pssg_one (psg_if (ptg_not (ptg_val (peg_call (ok_named m) (hr.mono (by decide)) rfl m.g__law_named_right m.F__law_named_right.kp m.b__law_named_right .nil (pa_cons (pe_call (ok_mixed m) (hr.mono (by decide)) rfl m.g__law_mixed m.F__law_mixed.kp m.b__law_mixed .nil pass0 (pa_cons (pv 1) (pa_cons (pe_op op_add pe_int (pe_call (ok_weave m) (hr.mono (by decide)) rfl m.g__law_weave m.F__law_weave.kp m.b__law_weave .nil pass0 (pa_cons (pv 1) (pa_cons pe_int pa_nil)))) pa_nil))) pa_nil)))) (pssg_one (psg_ret (peg_of pe_bl))) pssg_nil)))))
    (pssg_one (psg_ret (peg_of pe_bl)))), ?_⟩)
  · obtain ⟨p, ns, rfl, _⟩ := h; rfl
  · obtain ⟨p, ns, rfl, hp, ln, q⟩ := h
    refine ⟨_, rfl, p, ns, rfl, hp, ln, fun a b H1 e1 lo1 => ⟨(4 : Int), rfl, by decide, by decide, ?_⟩⟩
    have e4 : (4 : Int).toNat = 4 := rfl
    rw [e4]
    refine forG_range (lo := 0) (n := 4) (fun i σ' H' => Loom a b (400 * i) H' ∧ ∃ x2 x3, σ' = [some (V.ref p), some (V.ref a), x2, x3]) ⟨lo1, _, _, rfl⟩ (fun i σ' H2 hi p => ?_) fun σ' H2 p => q H2
    obtain ⟨lo2, x2, x3, rfl⟩ := p
    rw [Int.zero_add]
    obtain ⟨top, ht1, ht2, ht3⟩ : ∃ top : Nat, [V.int 6, V.int 3][i % 2]? = some (nV top) ∧ 1 ≤ top ∧ top ≤ 6 := by
      rcases Nat.mod_two_eq_zero_or_one i with h | h <;> rw [h]
      · exact ⟨6, rfl, by decide, by decide⟩
      · exact ⟨3, rfl, by decide, by decide⟩
    refine ⟨_, rfl, by show 2 ≤ sizeLine; decide, fun l hl => ⟨_, rfl, _, _, rfl, rfl, (by show (0 : Int) < 2; decide), l, _, ((i % 2 : Nat) : Int), nV top, rfl, congrArg V.int (cast_mod i 2), SqL.of upd_same, atI_nat ht1, ?_⟩⟩
    have lo3 := lo2.ext (Ext.upd (o := .lst [V.int 6, V.int 3]) hl)
    refine ⟨a, b, 400 * i, top, rfl, lo3, by omega, ht2, ht3, fun rv n R H4 x4 lo4 tt4 g ntop => ?_⟩
    refine ⟨_, rfl, _, rfl, a, b, 400 * i + 100, rv, R, n, rfl, lo4, by omega, tt4, g, fun H5 x5 lo5 => ⟨true, rfl, iteF ⟨_, rfl, _, rfl, a, b, 400 * i + 100 + 200, rv, R, n, rfl, lo5, by omega, tt4.extT (x5.tup lo4), g, fun H6 x6 lo6 => ⟨true, rfl, iteF ?_⟩⟩⟩⟩
    refine ⟨_, rfl, _, rfl, a, b, 400 * i + 100 + 200 + 10, 6, rfl, lo6, by omega, by decide, by decide, fun r H7 hr7 x7 lo7 => ⟨_, _, rfl, rfl, a, b, 400 * i + 100 + 200 + 10 + 1, 1 + r, congrArg (fun z => [V.ref a, V.int z]) (show (1 : Int) + (r : Int) = ((1 + r : Nat) : Int) by omega), lo7, by omega, by omega, fun v l2 H8 x8 lo8 pf8 pr8 => ⟨v, l2, 1 + r, rfl, pf8.tn, pr8, by omega, by omega, fun H9 e9 => ⟨true, rfl, iteF ⟨(lo8.ext e9).mono (by omega), _, _, rfl⟩⟩⟩⟩⟩
end
end GG
/-! END: the claim. -/
open PySem
open PySem.W
open PySem.Calls
open PyProof.Rows
theorem PySem.Challenge.cw_lanerules_k57_whole_bounds_and_days_holds : PySem.Challenge.rw_lanerules_k57_whole_bounds_and_days.Holds := by
  w_on; o_law
  refine GG.headGo (r := OpenLaw.row PySem.Challenge.rw_lanerules_k57_whole_bounds_and_days) (q := GG.hdQ) (H := GG.hdHook) (ob := GG.hdOb) (M := 4000) (loose := GG.loose) (d := HandSHeadRun.topDef (OpenLaw.row PySem.Challenge.rw_lanerules_k57_whole_bounds_and_days).prog 50) (kwd := []) GG.hdOb_eq
    (by kernel_rfl) (fun s => by kernel_rfl) GG.hdRun (by kernel_rfl) (by kernel_rfl) (by kernel_rfl) (by rfl) (by first | assumption | decide +kernel) (by decide +kernel) ⟨rfl, rfl, rfl, rfl, rfl, by decide +kernel⟩ ?hw ?hc
  case hw => w_witness2
  case hc =>
    refine GG.walkGo (l := PySem.Challenge.rw_lanerules_k57_whole_bounds_and_days) (n := 63) (k := 23) (x := "_law_script") rfl (by decide) (by kernel_rfl) ⟨rfl, by decide, by decide⟩ ?F
    intro Z w mg fa h Y G hmg0
    obtain ⟨K, KX, c⟩ := Y
    have md : GG.Md K mg := ⟨c, h, KX, G⟩
    have hmg : mg ("law" : PySem.Str) = some (.ref fa) := by
      have e : (HandSHeadRun.topDef (OpenLaw.row PySem.Challenge.rw_lanerules_k57_whole_bounds_and_days).prog 50).name = ("law" : PySem.Str) := by kernel_rfl
      rw [← e]
      exact hmg0
    have e := hmg.symm.trans md.g_law
    cases e
    have b := L2.FunD.bindsA (ps := ["_law_script"]) md.F_law fun _ _ _ _ _ _ us hl => match us, hl with | [_], _ => rfl
    exact ⟨K, md.d_law, GG.spLaw K, KX, fun s v => b s [v] rfl, fun H a ns hl _ hS => ⟨a, ns, rfl, hS, by omega, fun _ => rfl⟩, fun base _ _ => GG.ok_law md⟩
