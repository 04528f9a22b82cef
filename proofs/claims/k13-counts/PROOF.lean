import PyProof.Rows.All
import Wide.All
import OpenK.AllK
import Wide.FinOn
import HandS.ForMost
import HandS.Head0
import HandS.Head1
import HandS.Head2
import HandS.ListItems
import KE.GoesMore
import KE.KDictZip
import PyProof.ListRange
import HandS.Zip
import HandS.Codes
import HandS.IsInst
import HandS.Flow
import HandS.DictComp
import HandS.TupAny
import HandS.Walk
import HandS.Style
import HandS.ExcInit
import HandS.TryMany
import HandS.ForExc
import HandS.Lambda
import HandS.ExcValue
import HandS.ExcField
import HandS.TupMul
import HandS.HeadHook4
import HandS.HeadWalk
import PySem.Challenge.RW_sevenpoints_k13_whole_counts_along_edges
section
set_option Elab.async false
set_option linter.all false
set_option maxRecDepth 100000
set_option maxHeartbeats 4000000
/-! The head in pieces: a run of the machine told as wp and back; own work for this claim. -/
namespace Hd
open PySem PySem.W PySem.Calls PyProof.Rows

/-- a thread that runs to its end, calmly -/
structure Halt (p : Program) (w : World) (s : Shared) (t : Thread) (f : Flow) (s' : Shared) : Prop where
  ex : ∃ n, PySem.runN (denote table) p w n s t = .halted (.done f) s'
  calm : ∀ k u v, PySem.runN (denote table) p w k s t = .running u v → v.calm = true

theorem through_shape {t : Thread} (h : through t = true) : ∃ f, t.cur = .pure (.done f) ∧ t.stack = [] ∧ t.calm = true := by
  obtain ⟨cur, code, pos, stack⟩ := t
  obtain ⟨h1, h2⟩ := Bool.and_eq_true_iff.mp h
  have e : stack = [] := List.isEmpty_iff.mp h1
  subst e
  cases cur with
  | pure x =>
    cases x with
    | done f => exact ⟨f, rfl, rfl, rfl⟩
    | again c => cases h2
  | _ => cases h2

theorem halt_through {p : Program} {w : World} {s : Shared} {t : Thread} (h : through t = true) (hg : leftWithCleanup s.gens = false) : ∃ f, Halt p w s t f s := by
  obtain ⟨f, h1, h2, h3⟩ := through_shape h
  obtain ⟨cur, code, pos, stack⟩ := t
  obtain ⟨heap, gens, drawn, toks, os⟩ := s
  dsimp only at h1 h2
  subst h1 h2
  have e : step (denote table) p w ⟨heap, gens, drawn, toks, os⟩ ⟨.pure (.done f), code, pos, []⟩ = .halt (.done f) ⟨heap, gens, drawn, toks, os⟩ := by
    have hg' : leftWithCleanup gens = false := hg
    simp only [step, finish, hg', Bool.false_eq_true, if_false]
  refine ⟨f, ⟨1, ?_⟩, fun k u v hk => ?_⟩
  · simp only [PySem.runN, e]
  · cases k with
    | zero =>
      injection hk with _ hv
      rw [← hv]
      exact h3
    | succ k =>
      simp only [PySem.runN, e] at hk
      cases hk

theorem Halt.head {p : Program} {w : World} {s u : Shared} {t v : Thread} {f : Flow} {s' : Shared} (hc : t.calm = true) (hs : step (denote table) p w s t = .go u v) (h : Halt p w u v f s') : Halt p w s t f s' := by
  obtain ⟨⟨n, hn⟩, hk⟩ := h
  refine ⟨⟨n + 1, ?_⟩, fun k a b q => ?_⟩
  · simp only [PySem.runN, hs]
    exact hn
  · cases k with
    | zero =>
      injection q with _ hv
      rw [← hv]
      exact hc
    | succ k =>
      simp only [PySem.runN, hs] at q
      exact hk k a b q

theorem halt_top {p : Program} {w : World} {n0 : Nat} {ann : Option Value} : ∀ (n : Nat) (s : Shared) (t : Thread) (s' : Shared), topRun table p w n0 ann n s t = some s' → leftWithCleanup s'.gens = false → ∃ f, Halt p w s t f s'
  | 0, _, _, _, h, _ => by cases h
  | n + 1, s, t, s', h, hg => by
    unfold topRun at h
    cases ht : through t with
    | true =>
      rw [ht] at h
      have e : s = s' := Option.some.inj h
      subst e
      exact halt_through ht hg
    | false =>
      rw [ht] at h
      cases hk : stepOk n0 ann t with
      | false =>
        rw [hk] at h
        cases h
      | true =>
        rw [hk] at h
        cases hs : step (denote table) p w s t with
        | halt o u =>
          rw [hs] at h
          cases h
        | go u v =>
          rw [hs] at h
          obtain ⟨f, hf⟩ := halt_top n u v s' h hg
          exact ⟨f, hf.head (Bool.and_eq_true_iff.mp hk).1 hs⟩

/-- a piece's frame: it comes through where the piece goes on -/
def kNext : Result → Sem Fin
  | .ok .next => .pure (.done .next)
  | _ => .unsupported "a piece that does not go on"
abbrev frN (cb : Code) (pb : Pos) : Frame := .ret kNext none false [] cb pb []

theorem runs_pure {M : Model} {Γ : Ctx} {p : Pos} {f : Flow} {s s' : Shared} {e : End} (h : Runs M Γ p (.pure (.done f)) [] s e s') : e = .ret (.ok f) ∧ s' = s := by
  cases h
  exact ⟨rfl, rfl⟩
theorem runs_unsup {M : Model} {Γ : Ctx} {p : Pos} {x : String} {s s' : Shared} {e : End} (h : Runs M Γ p (.unsupported x) [] s e s') : False := by
  cases h

/-- a piece's whole run, told as Runs in its own context -/
theorem runs_of_halt {p : Program} {w : World} {s s' : Shared} {X : Sem Fin} {c cb : Code} {q pb : Pos} {f : Flow} (hg : s'.gens = #[]) (h : Halt p w s ⟨X, c, q, [frN cb pb]⟩ f s') :
    Runs (model p w) ⟨c, none, none, [(cb, pb)], none⟩ q X [] s (.ret (.ok .next)) s' := by
  obtain ⟨⟨n, hn⟩, hc⟩ := h
  obtain ⟨m, u, hm, hf⟩ := (halts_real_iff (M := model p w) (r := .ok f) (s := s) (t := X) (c := c) (p := q) (st := [frN cb pb]) s'.forget).mp ⟨n, s', hn, rfl, hc⟩
  have e : u = s' := by
    have z := Shared.eq_of_forget_eq hf.symm
    have z2 : s'.forget = u.forget := hf.symm
    refine Shared.eq_of_forget_eq hf hg
  subst e
  obtain ⟨hr, _⟩ := halts_iff.mp ⟨m, hm⟩
  cases hr with
  | segRet a b =>
    rename_i r u1
    cases r with
    | error x => exact (runs_unsup b).elim
    | ok fl =>
      cases fl with
      | next =>
        obtain ⟨_, e2⟩ := runs_pure b
        rw [e2]
        exact a
      | _ => exact (runs_unsup b).elim
  | segSuspGen hsp _ _ _ => cases hsp

theorem block_start {A : List Stmt} {env : Env} (hann : hasAnns A = false) (hdoc : docOf A = none) : blockStart A env = pure () := by
  unfold blockStart
  rw [hann, hdoc]
  cases interactive env <;> rfl

section
variable {p : Program} {w : World} {Γ : Ctx} {q : Pos} {s s' : Shared} {env : Env}
/-- what a piece's leaving may do: nothing -/
abbrev ELv (p : Program) (w : World) (Γ : Ctx) (env : Env) : Value → Pos → Shared → Prop := fun e q u => Sem.wp (model p w) Γ (leaving env e) (fun _ _ _ => False) (fun _ _ _ => False) q u
theorem wp_piece {A : List Stmt} (hann : hasAnns A = false) (hdoc : docOf A = none) (h : Runs (model p w) Γ q (denote table (.body A env)) [] s (.ret (.ok .next)) s') :
    Sem.wp (model p w) Γ (execs A env) (fun f _ u => f = .next ∧ u = s') (ELv p w Γ env) q s := by
  have h1 := (Sem.wp_iff_runs (model p w) Γ (denote table (.body A env)) (fun r u => r = .ok .next ∧ u = s') q s).mpr ⟨_, _, h, rfl, rfl⟩
  have h2 : Sem.wp (model p w) Γ (do blockStart A env; return Fin.done (← (execs A env).onRaise (leaving env))) (Sem.finPost (model p w) Γ fun r u => r = .ok .next ∧ u = s') (fun e _ u => (Except.error e : Result) = .ok .next ∧ u = s') q s := h1
  rw [block_start hann hdoc, Sem.wp_bind', Sem.wp_pure', Sem.wp_bind', Sem.wp_onRaise] at h2
  refine Sem.wp_mono _ _ _ (fun f p1 u hq => ?_) (fun e p1 u hq => ?_) _ _ h2
  · rw [Sem.wp_pure'] at hq
    have hq2 : (Except.ok f : Result) = .ok .next ∧ u = s' := hq
    exact ⟨Except.ok.inj hq2.1, hq2.2⟩
  · exact Sem.wp_mono _ _ _ (fun _ _ _ z => nomatch z.1) (fun _ _ _ z => nomatch z.1) _ _ hq

theorem wp_execs_app {Q : Flow → Pos → Shared → Prop} {E : Value → Pos → Shared → Prop} {R : List Stmt} : ∀ (A : List Stmt) (q : Pos) (s : Shared),
    Sem.wp (model p w) Γ (execs A env) (fun f q u => match f with
      | .next => Sem.wp (model p w) Γ (execs R env) Q E q u
      | f => Q f q u) E q s → Sem.wp (model p w) Γ (execs (A ++ R) env) Q E q s
  | [], q, s, h => by
    have h1 : Sem.wp (model p w) Γ (pure Flow.next : Sem Flow) (fun f q u => match f with
      | .next => Sem.wp (model p w) Γ (execs R env) Q E q u
      | f => Q f q u) E q s := by
      have e : execs [] env = pure Flow.next := by unfold execs; rfl
      rw [e] at h
      exact h
    rw [Sem.wp_pure'] at h1
    exact h1
  | st :: A, q, s, h => by
    have e1 : ∀ l, execs (st :: l) env = exec st env >>= fun f => match f with
      | .next => execs l env
      | f => pure f := fun l => by
      conv => lhs; unfold execs
      rfl
    rw [List.cons_append, e1, Sem.wp_bind']
    rw [e1, Sem.wp_bind'] at h
    refine Sem.wp_mono _ _ _ (fun f p1 u hq => ?_) (fun _ _ _ z => z) _ _ h
    cases f with
    | next => exact wp_execs_app A p1 u hq
    | _ =>
      dsimp only at hq ⊢
      rw [Sem.wp_pure'] at hq ⊢
      exact hq

theorem runs_body {A : List Stmt} (hann : hasAnns A = false) (hdoc : docOf A = none) (h : Sem.wp (model p w) Γ (execs A env) (fun f _ u => f = .next ∧ u = s') (ELv p w Γ env) q s) :
    Runs (model p w) Γ q (denote table (.body A env)) [] s (.ret (.ok .next)) s' := by
  have h2 : Sem.wp (model p w) Γ (do blockStart A env; return Fin.done (← (execs A env).onRaise (leaving env))) (Sem.finPost (model p w) Γ fun r u => r = .ok .next ∧ u = s') (fun e _ u => (Except.error e : Result) = .ok .next ∧ u = s') q s := by
    rw [block_start hann hdoc, Sem.wp_bind', Sem.wp_pure', Sem.wp_bind', Sem.wp_onRaise]
    refine Sem.wp_mono _ _ _ (fun f p1 u hq => ?_) (fun e p1 u hq => ?_) _ _ h
    · rw [Sem.wp_pure']
      obtain ⟨rfl, rfl⟩ := hq
      exact ⟨rfl, rfl⟩
    · exact Sem.wp_mono _ _ _ (fun _ _ _ z => z.elim) (fun _ _ _ z => z.elim) _ _ hq
  obtain ⟨r, u, hr, rfl, rfl⟩ := (Sem.wp_iff_runs (model p w) Γ (denote table (.body A env)) (fun r u => r = .ok .next ∧ u = s') q s).mp h2
  exact hr
end

end Hd
end
section
set_option Elab.async false
set_option linter.all false
set_option maxRecDepth 100000
set_option maxHeartbeats 4000000
namespace Hd
open PySem PySem.W PySem.Calls PyProof.Rows

/-- what a stretch of the top leaves as it was -/
structure Kept (n0 : Nat) (ann : Option Value) (s s' : Shared) : Prop where
  life : s'.heap.life = s.heap.life
  os : s'.os = s.os
  fr : ∀ b o, b < n0 → b ≠ mainNs → b ≠ cStatics → ann ≠ some (.ref b) → s.heap.get? b = some o → s'.heap.get? b = some o
theorem Kept.refl {n0 : Nat} {ann : Option Value} (s : Shared) : Kept n0 ann s s := ⟨rfl, rfl, fun _ _ _ _ _ _ h => h⟩
theorem Kept.trans {n0 : Nat} {ann : Option Value} {s1 s2 s3 : Shared} (a : Kept n0 ann s1 s2) (b : Kept n0 ann s2 s3) : Kept n0 ann s1 s3 :=
  ⟨b.life.trans a.life, b.os.trans a.os, fun x o h1 h2 h3 h4 h => b.fr x o h1 h2 h3 h4 (a.fr x o h1 h2 h3 h4 h)⟩
theorem kept_step {p : Program} {w : World} {n0 : Nat} {ann : Option Value} {s s' : Shared} {t t' : Thread} (hk : stepOk n0 ann t = true) (hs : step (denote table) p w s t = .go s' t') : Kept n0 ann s s' := by
  obtain ⟨hc, hu⟩ := Bool.and_eq_true_iff.mp hk
  refine ⟨step_life _ _ _ _ _ _ _ hs, step_os_same hs (by revert hu; cases t.cur <;> simp), fun b o h1 h2 h3 h4 h => ?_⟩
  rw [PySem.step_heap _ _ _ _ _ _ _ hs]
  obtain ⟨cur, code, pos, stack⟩ := t
  cases cur with
  | alloc x k => exact Heap.get?_push_of_some x h
  | update a pt f k =>
    have hb : b ≠ a := by
      intro e
      subst e
      have hu' : (Nat.ble n0 b || b == mainNs || b == cStatics || ann == some (.ref b)) = true := hu
      simp only [Bool.or_eq_true, Nat.ble_eq, beq_iff_eq] at hu'
      rcases hu' with ((z | z) | z) | z
      · omega
      · exact h2 z
      · exact h3 z
      · exact h4 z
    exact (Heap.get?_update_ne _ _ _ _ hb).trans h
  | _ => exact h
theorem kept_top {p : Program} {w : World} {n0 : Nat} {ann : Option Value} {n : Nat} {s s' : Shared} {t : Thread} (hz : s.asleep) (h : topRun table p w n0 ann n s t = some s') : Kept n0 ann s s' := by
  obtain ⟨_, a, b, c⟩ := topRun_spec n s t s' hz h
  exact ⟨a, b, c⟩
theorem go_kept {p : Program} {w : World} {n0 : Nat} {ann : Option Value} : ∀ {n : Nat} {s s' : Shared} {t t' : Thread}, topGo table p w n0 ann n s t = some (s', t') → Kept n0 ann s s' ∧ ∀ f u, Halt p w s' t' f u → Halt p w s t f u
  | 0, s, s', t, t', h => by
    have e : (s, t) = (s', t') := Option.some.inj h
    injection e with e1 e2
    subst e1 e2
    exact ⟨.refl _, fun _ _ h => h⟩
  | n + 1, s, s', t, t', h => by
    unfold topGo at h
    cases ht : through t with
    | true =>
      rw [ht] at h
      cases h
    | false =>
      rw [ht] at h
      cases hk : stepOk n0 ann t with
      | false =>
        rw [hk] at h
        cases h
      | true =>
        rw [hk] at h
        cases hs : step (denote table) p w s t with
        | halt o u =>
          rw [hs] at h
          cases h
        | go u v =>
          rw [hs] at h
          obtain ⟨a, b⟩ := go_kept h
          exact ⟨(kept_step hk hs).trans a, fun f x hx => (b f x hx).head (Bool.and_eq_true_iff.mp hk).1 hs⟩

/-- the last state before a halt -/
theorem halt_last {p : Program} {w : World} {f : Flow} {s' : Shared} : ∀ (n : Nat) (s : Shared) (t : Thread), PySem.runN (denote table) p w n s t = .halted (.done f) s' → ∃ k v, PySem.runN (denote table) p w k s t = .running s' v ∧ through v = true
  | 0, _, _, h => by cases h
  | n + 1, s, t, h => by
    simp only [PySem.runN] at h
    cases hs : step (denote table) p w s t with
    | go u v =>
      rw [hs] at h
      obtain ⟨k, x, h1, h2⟩ := halt_last n u v h
      exact ⟨k + 1, x, by simp only [PySem.runN, hs]; exact h1, h2⟩
    | halt o u =>
      rw [hs] at h
      injection h with e1 e2
      have e3 := step_halt_same _ _ _ _ _ _ _ hs
      rw [← e2, e3]
      refine ⟨0, t, rfl, ?_⟩
      subst e1
      obtain ⟨heap, gens, drawn, toks, os⟩ := s
      obtain ⟨cur, code, pos, stack⟩ := t
      cases cur with
      | pure x =>
        cases x with
        | again c => cases stack <;> cases hs
        | done g =>
          cases stack with
          | nil => rfl
          | cons F r => cases F <;> cases hs
      | raise e =>
        cases stack with
        | nil =>
          simp only [step, finish] at hs
          split at hs <;> cases hs
        | cons F r => cases F <;> cases hs
      | finish e =>
        simp only [step] at hs
        split at hs <;> cases hs
      | _ =>
        simp only [step] at hs
        repeat' split at hs
        all_goals cases hs
theorem run_end {p : Program} {w : World} {o : Outcome} {u y : Shared} {x : Thread} : ∀ (j : Nat) (s : Shared) (t : Thread), PySem.runN (denote table) p w j s t = .running u x → step (denote table) p w u x = .halt o y → PySem.runN (denote table) p w (j + 1) s t = .halted o y
  | 0, s, t, h, q => by
    injection h with h1 h2
    subst h1 h2
    simp only [PySem.runN, q]
  | j + 1, s, t, h, q => by
    simp only [PySem.runN] at h
    cases hs : step (denote table) p w s t with
    | go a b =>
      rw [hs] at h
      have z := run_end j a b h q
      show (match step (denote table) p w s t with
        | .go s' t' => PySem.runN (denote table) p w (j + 1) s' t'
        | .halt o s' => .halted o s') = _
      rw [hs]
      exact z
    | halt a b =>
      rw [hs] at h
      cases h
theorem halt_sched {p : Program} {w : World} {s s' : Shared} {t : Thread} {f : Flow} (hz : s.asleep) (h : Halt p w s t f s') : ∃ n v, schedN (denote table) p w n (.single s t) = .running (.single s' v) ∧ through v = true := by
  obtain ⟨⟨n, hn⟩, hc⟩ := h
  obtain ⟨k, v, h1, h2⟩ := halt_last n s t hn
  refine ⟨k, v, ?_, h2⟩
  rw [schedN_prefix (denote table) p w k s t hz fun j u x hj hx => ⟨hc j u x hx, fun hq => ?_⟩, h1]
  · rfl
  · have e := run_end j s t hx hq
    have m := runN_mono (denote table) p w (j + 1) (k - (j + 1)) s t _ _ e
    rw [show j + 1 + (k - (j + 1)) = k by omega, h1] at m
    cases m
end Hd
end
section
set_option Elab.async false
set_option linter.all false
set_option maxRecDepth 100000
set_option maxHeartbeats 4000000
namespace Hd
open PySem PySem.W PySem.Calls PyProof.Rows

/-- what the top must have done, whatever way it is shown -/
def Behind (p q : Program) (loose : List PySem.Str) (XP : (PySem.Str → Option Value) → Heap → Prop) (YP : World → Heap → Prop) (w : World) : Prop :=
  (∃ s, AfterRun (opening p) w s) ∧
  ∀ s, AfterRun (opening p) w s → ∃ s0, fenceModules? p s = some s0 ∧ s0.gens = #[] ∧
    ∃ s1, TopRan p w s0 s1 ∧ s1.asleep ∧ s1.gens = #[] ∧ s1.heap.isNs mainGlobals = true ∧
      Ground q loose [] XP w s1 (s1.heap.nsMap mainGlobals) (s1.heap.nsMap builtinsNs) s1.heap ∧ YP w s1.heap

theorem holds_behind {r : OpenRow} {q : Program} {loose : List PySem.Str} {XP : (PySem.Str → Option Value) → Heap → Prop} {YP : World → Heap → Prop} {d : DefRec} {kwd : List (PySem.Str × PySem.Expr)}
    (B : ∀ w, Behind r.prog q loose XP YP w) (hrec : r.records = []) (hwf : r.writes = false)
    (hYk : ∀ w h h', YP w h → (∀ b o, h.get? b = some o → h'.get? b = some o) → YP w h') (hXk : ∀ mg h h', XP mg h → (∀ b o, h.get? b = some o → h'.get? b = some o) → XP mg h')
    (hdef : defOf q r.name = some (d, kwd)) (hp : r.prog.theDef r.name = some (d.params, d.body, d.scope)) (hk : kwWritten? d.params.kwonlyargs d.params.kw_defaults = some kwd)
    (k1 : r.wellSaid = true) (ok : (chainsOk q && opensWell r.prog && (frees r.toRowW && r.within.isEmpty)) = true) (hb : r.prog.bare) (hw : r.toRowW.promised)
    (call : WalkO q loose XP YP r.toRowW d kwd fun f vs => PySem.call f vs) : r.Holds := by
  have ok1 := Bool.and_eq_true_iff.mp ok
  have ok2 := Bool.and_eq_true_iff.mp ok1.1
  have ok3 := Bool.and_eq_true_iff.mp ok1.2
  obtain ⟨hsame, hu, ha, hap, hm⟩ := frees_parts ok3.1
  have hwi : r.claim.within = [] := List.isEmpty_iff.mp ok3.2
  have hid := ident_freeW hu ha hap
  refine ⟨k1, hw, ⟨hb, ok2.2, ?_⟩, hw.witness, fun w => ⟨(B w).1, fun s' hs' => ?_⟩⟩
  · show r.makers.map _ = []
    rw [hm]
    rfl
  obtain ⟨s0, hf, hg0, s, hT, hz, hgens, hg, G, y⟩ := (B w).2 s' hs'
  have RF : RecFacts r.records s.heap := recFacts_nil hrec
  have GR : Ground q loose r.records XP w s _ _ s.heap := RF.ground G
  refine ⟨s0, hf, hg0, s, hT, ?_, RF.1, RF.2.1, ?_⟩
  · intro n hn
    have e : n = r.name := by
      split at hn
      · exact List.mem_singleton.mp hn
      · cases hn
    rw [e]
    exact pinned_of_view hg G hdef hp hk
  refine ClaimW.callFrom_of_specG (c := r.claim) hz hgens fun args hpre hlay ord hord => ?_
  obtain ⟨vs1, hlaid1⟩ := Option.isSome_iff_exists.mp (layAllW_isSome (P := w.params) (ord := ord) GR.has args r.args s (pre_splitW hpre).1)
  obtain ⟨vs, s1⟩ := vs1
  have kps := layAllW_keeps _ _ _ hlaid1
  have hal := layAllW_rest _ _ _ hlaid1
  obtain ⟨as, hrd, hin, hold⟩ := reads_layAllW hord _ _ _ hlaid1 hlay s1.heap fun _ _ z => z
  have L : Laid r.records w s s1 args vs as := ⟨⟨ord, hord, hlaid1⟩, hrd, hin, hold, kps, hal.1.trans hgens, hal.2.2.1⟩
  have G1 := GR.keeps hXk kps
  obtain ⟨a, o, pm, cd, doc, dV, kV, h1, h2, h3, h4, h5⟩ := G1.fn hdef
  have hc := call w s s1 _ _ G1 (hYk _ _ _ y kps) a o pm cd doc dV kV h2 h3 h4 h5 (defOf_name hdef ▸ h1) L.gens args vs as hpre hlay L.reads L.well (L.low G.low)
  have no : ∀ {P : Prop}, r.writes = true → P := fun z => by
    rw [hwf] at z
    cases z
  refine ⟨vs, s1, hlaid1, ?_⟩
  have G1g : s1.heap.Ns mainGlobals _ := G1.T.g
  show wpAny (model r.prog w) callerA (do match ← nsGet mainNs r.name with
      | some f => do ret (← PySem.call f vs)
      | none => unsupported "claim.caller:no-such-global") _ _ s1
  refine wpAny_bind (wpAny_nsGet G1g ?_)
  rw [h1]
  refine wpAny_bind (wpAny_mono hc (fun v s2 g => wpAny_pure ?_) fun e s2 g => ?_)
  · have z := g.laid (c := r.claim) hsame hwi hid L
    exact ⟨_, rfl, z.1, z.2.1, z.2.2, fun q => no q⟩
  · have z := g.laid (c := r.claim) hsame hwi hid L
    exact ⟨z.1, z.2.1, z.2.2, fun q => no q⟩
end Hd
end
section
set_option Elab.async false
set_option linter.all false
set_option maxRecDepth 100000
set_option maxHeartbeats 4000000
noncomputable section
namespace Hd
open PySem PySem.W PySem.Calls PyProof.Rows HandSHeadRun

/-- so many steps, over the heap as a tree -/
def stepsT (st : SharedT → Thread → Option (SharedT × Thread)) (n0 : Nat) (ann : Option Value) : Nat → SharedT → Thread → Option (SharedT × Thread)
  | 0, s, t => some (s, t)
  | m + 1, s, t => match through t with
    | true => none
    | false => match stepOk n0 ann t with
      | false => none
      | true => match st s t with
        | some (s', t') => frS s' fun s' => stepsT st n0 ann m s' t'
        | none => none
theorem stepsT_ok {tb : String → Option Builtin} {p : Program} {w : World} {n0 : Nat} {ann : Option Value} : ∀ {m : Nat} {s s' : SharedT} {t t' : Thread}, stepsT (stepT (denote tb) p w) n0 ann m s t = some (s', t') → topGo tb p w n0 ann m s.abs t = some (s'.abs, t')
  | 0, s, s', t, t', h => by
    have e : (s, t) = (s', t') := Option.some.inj h
    injection e with e1 e2
    subst e1 e2
    rfl
  | m + 1, s, s', t, t', h => by
    unfold stepsT at h
    unfold topGo
    cases ht : through t with
    | true =>
      rw [ht] at h
      cases h
    | false =>
      rw [ht] at h
      cases hk : stepOk n0 ann t with
      | false =>
        rw [hk] at h
        cases h
      | true =>
        rw [hk] at h
        cases hs : stepT (denote tb) p w s t with
        | none =>
          rw [hs] at h
          cases h
        | some r =>
          obtain ⟨u, v⟩ := r
          rw [hs] at h
          have h3 : (frS u fun s' => stepsT (stepT (denote tb) p w) n0 ann m s' v) = some (s', t') := h
          rw [frS_eq] at h3
          have q := stepsT_ok h3
          have e := stepT_spec hs
          rw [e]
          exact q
end Hd
end
end
section
set_option Elab.async false
set_option linter.all false
set_option maxRecDepth 100000
set_option maxHeartbeats 4000000
noncomputable section
namespace Hd
open PySem PySem.W PySem.Calls PyProof.Rows HandSHeadRun

/-! ### a display whose keys and values are tuples of texts, the state told exactly -/
def strVs : List PySem.Str → Nat → List Value
  | [], _ => []
  | x :: r, t => .str x t :: strVs r (t + 1)
theorem strVs_len : ∀ (xs : List PySem.Str) (t : Nat), (strVs xs t).length = xs.length
  | [], _ => rfl
  | _ :: r, t => congrArg Nat.succ (strVs_len r (t + 1))
def tupObj (xs : List PySem.Str) (t : Nat) : Obj := { cls := .type "tuple", data := .seq (strVs xs t).toArray }
def pushT (s : Shared) (xs : List PySem.Str) : Shared := { s with heap := s.heap.push (tupObj xs s.toks), toks := s.toks + xs.length }
def strEs : List PySem.Expr → Option (List PySem.Str)
  | [] => some []
  | .Constant (.str x) _ _ :: r => (strEs r).map fun l => x :: l
  | _ => none
def tupOf : PySem.Expr → Option (List PySem.Str)
  | .Tuple es _ _ => strEs es
  | _ => none

section
variable {p : Program} {w : World} {A : Around} {E : Value → Shared → Prop} {env : Env}
theorem spl_strs {pos : Pos} : ∀ (es : List PySem.Expr) (xs : List PySem.Str) (s : Shared) (Q : List Value → Shared → Prop), strEs es = some xs →
    Q (strVs xs s.toks) { s with toks := s.toks + xs.length } → wpAny (model p w) A (spliced (backTo pos (starEach es env))) Q E s
  | [], xs, s, Q, h, q => by
    have e : xs = [] := (Option.some.inj h).symm
    subst e
    exact Calls.spliced_nil q
  | e :: es, xs, s, Q, h, q => by
    cases e with
    | Constant c k cp =>
      cases c with
      | str x =>
        have h1 : (strEs es).map (fun l => x :: l) = some xs := h
        obtain ⟨ys, h2, h3⟩ := Option.map_eq_some_iff.mp h1
        subst h3
        show wpAny (model p w) A (spliced ((false, eval (.Constant (.str x) k cp) env) :: backTo pos (starEach es env))) Q E s
        refine Calls.spliced_cons (Calls.Constant_str ?_)
        refine spl_strs es ys _ _ h2 ?_
        have e1 : s.toks + 1 + ys.length = s.toks + (ys.length + 1) := by omega
        show Q (.str x s.toks :: strVs ys (s.toks + 1)) { s with toks := s.toks + 1 + ys.length }
        rw [e1]
        exact q
      | _ => cases h
    | _ => cases h
theorem ev_tup {e : PySem.Expr} {xs : List PySem.Str} {s : Shared} {Q : Value → Shared → Prop} (h : tupOf e = some xs) (hl : xs.length ≤ 10) (q : Q (.ref s.heap.objs.size) (pushT s xs)) : wpAny (model p w) A (eval e env) Q E s := by
  cases e with
  | Tuple es k tp =>
    refine wpAny_Tuple_spliced (spl_strs es xs s _ h ⟨?_, q⟩)
    rw [strVs_len]
    exact Nat.le_trans hl (by decide)
  | _ => cases h

abbrev kTS (p : Program) (w : World) : HeapKind p w (List PySem.Str) := tupleKind (strKind p w)
abbrev entT (p : Program) (w : World) (x : List PySem.Str × Addr × Value) : DictEntry := entryOfKey (kTS p w) x
/-- a dict told exactly -/
structure DS (p : Program) (w : World) (h : Heap) (d : Addr) (xs : List (List PySem.Str × Addr × Value)) (ep : Nat) : Prop where
  obj : h.get? d = some { cls := .type "dict", data := .dict (xs.map (entT p w)).toArray ep }
  his : ∀ x ∈ xs, IsTupleKey (strKind p w) h x.1 x.2.1
  nod : (xs.map (·.1)).Nodup
  len : xs.length ≤ 100
theorem items_strs : ∀ (xs : List PySem.Str) (t : Nat), ItemsAre (strKind p w) xs (strVs xs t)
  | [], _ => .nil
  | x :: r, t => .cons (by show Value.isStrOf x (.str x t) = true; simp [Value.isStrOf]) (items_strs r (t + 1))
theorem key_new {h : Heap} {xs : List PySem.Str} {t : Nat} : IsTupleKey (strKind p w) (h.push (tupObj xs t)) xs h.objs.size :=
  ⟨tupObj xs t, (strVs xs t).toArray, 0, Heap.get?_push_size _ rfl, rfl, rfl, items_strs xs t⟩
theorem IsTupleKey.up {h h' : Heap} {ks : List PySem.Str} {a : Addr} (x : IsTupleKey (strKind p w) h ks a) (k : ∀ o, h.get? a = some o → h'.get? a = some o) : IsTupleKey (strKind p w) h' ks a := by
  obtain ⟨o, items, n, ho, r⟩ := x
  exact ⟨o, items, n, k _ ho, r⟩
theorem DS.push {h : Heap} {d : Addr} {xs : List (List PySem.Str × Addr × Value)} {ep : Nat} (x : DS p w h d xs ep) (o : Obj) : DS p w (h.push o) d xs ep :=
  ⟨Heap.get?_push_of_some _ x.obj, fun y hy => Hd.IsTupleKey.up (x.his y hy) fun u hu => Heap.get?_push_of_some _ hu, x.nod, x.len⟩
def putE (k : List PySem.Str) (a : Addr) (v : Value) (p : Program) (w : World) : Obj → Obj := Obj.mapDictKeys (·.push ⟨(kTS p w).hash k, .ref a, v⟩)
theorem DS.put {h : Heap} {d : Addr} {xs : List (List PySem.Str × Addr × Value)} {ep : Nat} (x : DS p w h d xs ep) {k : List PySem.Str} {a : Addr} {v : Value} (hk : IsTupleKey (strKind p w) h k a) (hn : k ∉ xs.map (·.1)) (hl : xs.length < 100) :
    DS p w (h.update d (putE k a v p w)) d (xs ++ [(k, a, v)]) (ep + 1) := by
  have e := Heap.get?_update_self (putE k a v p w) x.obj rfl
  have ho : putE k a v p w { cls := .type "dict", data := .dict (xs.map (entT p w)).toArray ep } = { cls := .type "dict", data := .dict ((xs ++ [(k, a, v)]).map (entT p w)).toArray (ep + 1) } := by
    unfold putE
    simp only [Obj.mapDictKeys, List.map_append, List.map_cons, List.map_nil, List.push_toArray, entT, entryOfKey]
  rw [ho] at e
  have ne : ∀ {b : Addr} {ks : List PySem.Str}, IsTupleKey (strKind p w) h ks b → IsTupleKey (strKind p w) (h.update d (putE k a v p w)) ks b := fun {b ks} z => by
    refine Hd.IsTupleKey.up z fun o q => ?_
    have hb : b ≠ d := by
      intro c
      subst c
      obtain ⟨o2, items, n, h1, _, h2, _⟩ := z
      rw [x.obj] at h1
      cases h1
      cases h2
    exact (Heap.get?_update_ne _ _ _ _ hb).trans q
  refine ⟨e, fun y hy => ?_, ?_, by rw [List.length_append]; simp; omega⟩
  · rcases List.mem_append.mp hy with z | z
    · exact ne (x.his y z)
    · rw [List.mem_singleton] at z
      subst z
      exact ne hk
  · rw [List.map_append, List.nodup_append]
    refine ⟨x.nod, by simp, fun y hy z hz => ?_⟩
    simp only [List.map_cons, List.map_nil, List.mem_singleton] at hz
    intro c
    exact hn (by rw [← hz, ← c]; exact hy)
theorem find_none {s : Shared} {d a : Addr} {xs : List (List PySem.Str × Addr × Value)} {ep : Nat} {k : List PySem.Str} {Q : Option Nat → Shared → Prop} (hu : A.units < cLine) (x : DS p w s.heap d xs ep) (hk : IsTupleKey (strKind p w) s.heap k a) (hn : k ∉ xs.map (·.1))
    (q : Q none s) : wpAny (model p w) A (dictFind d (.ref a) ((kTS p w).hash k)) Q E s := by
  refine wpAny_dictFind_heap (knd := kTS p w) (xs := xs) hu hk x.obj rfl (by simp) x.his x.nod (fun _ => q) fun j z hz => ?_
  refine absurd ?_ hn
  exact List.mem_map.mpr ⟨(k, z), List.mem_of_getElem? hz, rfl⟩
theorem put_exact {s : Shared} {d a : Addr} {xs : List (List PySem.Str × Addr × Value)} {ep : Nat} {k : List PySem.Str} {v : Value} {Q : Unit → Shared → Prop} (x : DS p w s.heap d xs ep)
    (q : Q () { s with heap := s.heap.update d (putE k a v p w) }) {kp : Option Value} : wpAny (model p w) A (updateDictKeys d (·.push ⟨(kTS p w).hash k, .ref a, v⟩) kp) Q E s := by
  refine wpAny_updateDictKeys x.obj rfl q ?_ ?_
  · have := x.len
    rw [List.size_toArray, List.length_map]
    exact Nat.le_trans this (by decide)
  · simp
theorem set_exact {s : Shared} {d a : Addr} {xs : List (List PySem.Str × Addr × Value)} {ep : Nat} {k : List PySem.Str} {v : Value} {Q : Unit → Shared → Prop} (hu : A.units < cLine) (x : DS p w s.heap d xs ep) (hk : IsTupleKey (strKind p w) s.heap k a) (hn : k ∉ xs.map (·.1))
    (q : Q () { s with heap := s.heap.update d (putE k a v p w), toks := s.toks + (k.length + 1) }) : wpAny (model p w) A (dictSet d (.ref a) v) Q E s := by
  unfold dictSet
  apply wpAny_holding
  apply wpAny_bind
  apply wpAny_pyHash_tuple hu hk
  unfold dictSetHashed
  apply wpAny_holding
  apply wpAny_bind
  apply find_none (s := { s with toks := s.toks + (k.length + 1) }) hu x hk hn
  apply wpAny_bind
  apply wpAny_rule
  exact put_exact (s := { s with toks := s.toks + (k.length + 1) }) x q
end
end Hd
end
end
section
set_option Elab.async false
set_option linter.all false
set_option maxRecDepth 100000
set_option maxHeartbeats 4000000
noncomputable section
namespace Hd
open PySem PySem.W PySem.Calls PyProof.Rows HandSHeadRun
section
variable {p : Program} {w : World} {A : Around} {E : Value → Shared → Prop} {env : Env}

/-- one pair of the display: both tuples made, then stored -/
def addP (p : Program) (w : World) (d : Addr) (s : Shared) (kv : List PySem.Str × List PySem.Str) : Shared :=
  { pushT (pushT s kv.1) kv.2 with
    heap := (pushT (pushT s kv.1) kv.2).heap.update d (putE kv.1 s.heap.objs.size (.ref (s.heap.objs.size + 1)) p w)
    toks := (pushT (pushT s kv.1) kv.2).toks + (kv.1.length + 1) }
def prs (env : Env) (pos : Pos) (l : List (PySem.Expr × PySem.Expr)) : List (Sem Value × Sem Value) := l.map fun x => (eval x.1 env, do let v ← eval x.2 env; standAt pos; pure v)
/-- the display's parts, told -/
inductive Says : List (PySem.Expr × PySem.Expr) → List (List PySem.Str × List PySem.Str) → Prop
  | nil : Says [] []
  | cons {e : PySem.Expr × PySem.Expr} {kv : List PySem.Str × List PySem.Str} {l : List (PySem.Expr × PySem.Expr)} {r : List (List PySem.Str × List PySem.Str)} : tupOf e.1 = some kv.1 → tupOf e.2 = some kv.2 → kv.1.length ≤ 10 → kv.2.length ≤ 10 → Says l r → Says (e :: l) (kv :: r)
theorem push_size (s : Shared) (xs : List PySem.Str) : (pushT s xs).heap.objs.size = s.heap.objs.size + 1 := by
  show (s.heap.push _).objs.size = _
  simp [Heap.push]
theorem addP_ds {d : Addr} {s : Shared} {xs : List (List PySem.Str × Addr × Value)} {ep : Nat} {kv : List PySem.Str × List PySem.Str} (x : DS p w s.heap d xs ep) (hn : kv.1 ∉ xs.map (·.1)) (hl : xs.length < 100) :
    DS p w (addP p w d s kv).heap d (xs ++ [(kv.1, s.heap.objs.size, .ref (s.heap.objs.size + 1))]) (ep + 1) := by
  refine DS.put ((x.push _).push _) ?_ hn hl
  exact Hd.IsTupleKey.up (key_new (p := p) (w := w) (h := s.heap) (xs := kv.1) (t := s.toks)) fun o q => Heap.get?_push_of_some _ q
theorem ev_pair {d : Addr} {s : Shared} {xs : List (List PySem.Str × Addr × Value)} {ep : Nat} {e : PySem.Expr × PySem.Expr} {kv : List PySem.Str × List PySem.Str} {pos : Pos} {Q : Unit → Shared → Prop} (hu : A.units < cLine) (x : DS p w s.heap d xs ep) (hn : kv.1 ∉ xs.map (·.1))
    (h1 : tupOf e.1 = some kv.1) (h2 : tupOf e.2 = some kv.2) (l1 : kv.1.length ≤ 10) (l2 : kv.2.length ≤ 10) (q : Q () (addP p w d s kv)) :
    wpAny (model p w) A (eval e.1 env) (fun a s1 => wpAny (model p w) A (do let v ← eval e.2 env; standAt pos; pure v) (fun v s2 => wpAny (model p w) A (dictSet d a v) Q E s2) E s1) E s := by
  refine ev_tup h1 l1 ?_
  refine wpAny_bind (ev_tup h2 l2 ?_)
  refine wpAny_bind (wpAny_standAt (wpAny_pure ?_))
  have e1 : (pushT s kv.1).heap.objs.size = s.heap.objs.size + 1 := push_size s kv.1
  rw [e1]
  refine set_exact hu ((x.push _).push _) ?_ hn q
  exact Hd.IsTupleKey.up (key_new (p := p) (w := w) (h := s.heap) (xs := kv.1) (t := s.toks)) fun o z => Heap.get?_push_of_some _ z
theorem loop_exact {d : Addr} {pos : Pos} (hu : A.units < cLine) : ∀ (l : List (PySem.Expr × PySem.Expr)) (kvs : List (List PySem.Str × List PySem.Str)) (s : Shared) (xs : List (List PySem.Str × Addr × Value)) (ep : Nat) (Q : PUnit → Shared → Prop), Says l kvs → DS p w s.heap d xs ep →
    (xs.map (·.1) ++ kvs.map (·.1)).Nodup → xs.length + kvs.length < 100 →
    (∀ xs' ep', DS p w (kvs.foldl (addP p w d) s).heap d xs' ep' → xs'.map (·.1) = xs.map (·.1) ++ kvs.map (·.1) → Q PUnit.unit (kvs.foldl (addP p w d) s)) →
    wpAny (model p w) A (forIn (prs env pos l) PUnit.unit fun (x : Sem Value × Sem Value) (_ : PUnit) => (match x with
      | (k, v) => do
        let kv ← k
        let vv ← holding [kv] v
        holding [kv, vv] (dictSet d kv vv)
        pure (ForInStep.yield PUnit.unit) : Sem (ForInStep PUnit))) Q E s
  | [], kvs, s, xs, ep, Q, hs, x, hn, hl, q => by
    cases hs
    show wpAny _ _ (forIn ([] : List (Sem Value × Sem Value)) PUnit.unit _) Q E s
    rw [List.forIn_nil]
    exact wpAny_pure (q xs ep x (by simp))
  | e :: l, kvs, s, xs, ep, Q, hs, x, hn, hl, q => by
    cases hs with
    | @cons _ kv _ r h1 h2 l1 l2 hs' =>
      show wpAny _ _ (forIn ((eval e.1 env, do let v ← eval e.2 env; standAt pos; pure v) :: prs env pos l) PUnit.unit _) Q E s
      rw [List.forIn_cons]
      have nk : kv.1 ∉ xs.map (·.1) := fun c => by
        rw [List.map_cons, List.nodup_append] at hn
        exact hn.2.2 _ c _ List.mem_cons_self rfl
      rw [List.length_cons] at hl
      refine wpAny_bind (wpAny_bind (wpAny_mono (ev_pair (pos := pos) hu x nk h1 h2 l1 l2 (Q := fun _ s3 => wpAny (model p w) A (forIn (prs env pos l) PUnit.unit fun (x : Sem Value × Sem Value) (_ : PUnit) => (match x with
          | (k, v) => do
            let kv ← k
            let vv ← holding [kv] v
            holding [kv, vv] (dictSet d kv vv)
            pure (ForInStep.yield PUnit.unit) : Sem (ForInStep PUnit))) Q E s3) ?_) (fun a s1 ha => ?_) fun _ _ z => z))
      · refine loop_exact hu l r _ (xs ++ [(kv.1, s.heap.objs.size, .ref (s.heap.objs.size + 1))]) (ep + 1) Q hs' (addP_ds x nk (by omega)) ?_ ?_ fun xs' ep' x' hx' => ?_
        · rw [List.map_append, List.append_assoc]
          exact hn
        · rw [List.length_append]
          simp only [List.length_cons, List.length_nil]
          omega
        · refine q xs' ep' x' ?_
          rw [hx', List.map_append, List.append_assoc]
          rfl
      · refine wpAny_bind (wpAny_holding (wpAny_mono ha (fun v s2 hv => ?_) fun _ _ z => z))
        exact wpAny_bind (wpAny_holding (wpAny_mono hv (fun _ s3 h3 => wpAny_pure h3) fun _ _ z => z))
end
end Hd
end
end
section
set_option Elab.async false
set_option linter.all false
set_option maxRecDepth 100000
set_option maxHeartbeats 4000000
noncomputable section
namespace Hd
open PySem PySem.W PySem.Calls PyProof.Rows HandSHeadRun
section
variable {p : Program} {w : World} {A : Around} {E : Value → Shared → Prop} {env : Env}
def pushD (s : Shared) : Shared := { s with heap := s.heap.push { cls := .type "dict", data := .dict #[] } }
theorem pushD_ds (s : Shared) : DS p w (pushD s).heap s.heap.objs.size [] 0 :=
  ⟨Heap.get?_push_size _ rfl, fun x hx => (nomatch hx), List.nodup_nil, Nat.zero_le _⟩
/-- a display of more than fifteen pairs -/
theorem sub_long {pos : Pos} {l : List (PySem.Expr × PySem.Expr)} {kvs : List (List PySem.Str × List PySem.Str)} {s : Shared} {Q : Addr → Shared → Prop} (hu : A.units < cLine) (hl : 15 < l.length) (hs : Says l kvs) (hn : (kvs.map (·.1)).Nodup) (hk : kvs.length < 100)
    (q : ∀ xs ep, DS p w (kvs.foldl (addP p w s.heap.objs.size) (pushD s)).heap s.heap.objs.size xs ep → xs.map (·.1) = kvs.map (·.1) → Q s.heap.objs.size (kvs.foldl (addP p w s.heap.objs.size) (pushD s))) :
    wpAny (model p w) A (subDict (prs env pos l)) Q E s := by
  unfold subDict
  apply wpAny_bind
  apply wpAny_alloc
  apply wpAny_bind
  apply wpAny_holding
  have hle : ¬ (prs env pos l).length ≤ 15 := by
    unfold prs
    rw [List.length_map]
    omega
  rw [if_neg hle]
  apply wpAny_bind
  apply wpAny_rule
  refine wpAny_bind ?_
  refine loop_exact hu l kvs (pushD s) [] 0 _ hs (pushD_ds s) (by simpa using hn) (by simpa using hk) fun xs ep x hx => ?_
  exact wpAny_pure (wpAny_pure (q xs ep x (by simpa using hx)))
/-- one of one pair -/
theorem sub_one {pos : Pos} {e : PySem.Expr × PySem.Expr} {kv : List PySem.Str × List PySem.Str} {s : Shared} {Q : Addr → Shared → Prop} (hu : A.units < cLine) (h1 : tupOf e.1 = some kv.1) (h2 : tupOf e.2 = some kv.2) (l1 : kv.1.length ≤ 10) (l2 : kv.2.length ≤ 10)
    (q : DS p w (addP p w s.heap.objs.size (pushD s) kv).heap s.heap.objs.size [(kv.1, (pushD s).heap.objs.size, .ref ((pushD s).heap.objs.size + 1))] 1 → Q s.heap.objs.size (addP p w s.heap.objs.size (pushD s) kv)) :
    wpAny (model p w) A (subDict (prs env pos [e])) Q E s := by
  unfold subDict
  apply wpAny_bind
  apply wpAny_alloc
  apply wpAny_bind
  apply wpAny_holding
  rw [if_pos (show (prs env pos [e]).length ≤ 15 from by show 1 ≤ 15; decide)]
  have x0 := pushD_ds (p := p) (w := w) s
  have ev := ev_pair (A := A) (E := E) (env := env) (pos := pos) (Q := fun _ s3 => Q s.heap.objs.size s3) hu x0 (by simp) h1 h2 l1 l2 (q (addP_ds x0 (by simp) (by simp)))
  show wpAny (model p w) A (evalPairs [(eval e.1 env, do let v ← eval e.2 env; standAt pos; pure v)] >>= _) _ E (pushD s)
  apply wpAny_bind
  show wpAny (model p w) A (do
    let kv ← eval e.1 env
    let vv ← holding [kv] (do let v ← eval e.2 env; standAt pos; pure v)
    return (kv, vv) :: (← holding [kv, vv] (evalPairs []))) _ E (pushD s)
  apply wpAny_bind
  refine wpAny_mono ev (fun a s1 ha => ?_) fun _ _ z => z
  refine wpAny_bind (wpAny_holding (wpAny_mono ha (fun v s2 hv => ?_) fun _ _ z => z))
  refine wpAny_bind (wpAny_holding (wpAny_pure (wpAny_pure ?_)))
  refine wpAny_holding ?_
  refine wpAny_bind ?_
  rw [List.forIn_cons]
  refine wpAny_bind (wpAny_bind (wpAny_mono hv (fun _ s3 h3 => wpAny_pure ?_) fun _ _ z => z))
  dsimp only
  rw [List.forIn_nil]
  exact wpAny_pure (wpAny_pure (wpAny_pure h3))

theorem ds_type {h : Heap} {g : Array GenState} {dr : Drawn} {t : Nat} {os : OsState} {d : Addr} {xs : List (List PySem.Str × Addr × Value)} {ep : Nat} (x : DS p w h d xs ep) : (⟨h, g, dr, t, os⟩ : Shared).TypeIs (.ref d) "dict" :=
  ⟨_, x.obj, rfl⟩
/-- an entry that is no key yet, put by its hash -/
theorem dput_exact {s : Shared} {d a : Addr} {xs : List (List PySem.Str × Addr × Value)} {ep : Nat} {k : List PySem.Str} {v : Value} {Q : Unit → Shared → Prop} (hu : A.units < cLine) (x : DS p w s.heap d xs ep) (hk : IsTupleKey (strKind p w) s.heap k a) (hn : k ∉ xs.map (·.1))
    (q : Q () { s with heap := s.heap.update d (putE k a v p w) }) : wpAny (model p w) A (dictPut d ((kTS p w).hash k) (.ref a) v) Q E s := by
  unfold dictPut
  apply wpAny_bind
  apply find_none hu x hk hn
  exact put_exact x q
theorem merge_exact {s : Shared} {d e a : Addr} {xs : List (List PySem.Str × Addr × Value)} {ep ep2 : Nat} {k : List PySem.Str} {v : Value} {Q : Unit → Shared → Prop} (hu : A.units < cLine) (hde : e ≠ d) (hm : (e == sysModules) = false) (hx0 : xs ≠ []) (x : DS p w s.heap d xs ep) (y : DS p w s.heap e [(k, a, v)] ep2) (hn : k ∉ xs.map (·.1))
    (q : Q () { s with heap := s.heap.update d (putE k a v p w) }) : wpAny (model p w) A (mergeMapping d (.ref e) false) Q E s := by
  obtain ⟨h, g, dr, t, os⟩ := s
  unfold mergeMapping
  apply wpAny_bind
  refine wpAny_isInstance (ds_type y) isSubtype_dict_dict ?_
  rw [if_pos rfl]
  apply wpAny_bind
  refine wpAny_specialOf (ds_type y) F.slot_dict_iter.lookup (wpAny_bind (wpAny_pure ?_))
  have eb : ((some (Value.builtin "dict.__iter__") == some (Value.builtin "dict.__iter__")) : Bool) = true := beq_self_eq_true _
  rw [eb]
  dsimp only
  rw [hm, if_neg Bool.false_ne_true]
  apply wpAny_bind
  refine wpAny_dictEntries x.obj rfl ?_
  have hne : ((xs.map (entT p w)).toArray.isEmpty) = false := by
    cases xs with
    | nil => exact absurd rfl hx0
    | cons z r => simp
  rw [hne]
  rw [if_neg Bool.false_ne_true]
  apply wpAny_bind
  refine wpAny_dictEntries y.obj rfl ?_
  apply wpAny_bind
  refine wpAny_dictEpoch y.obj rfl ?_
  refine wpAny_bind ?_
  show wpAny (model p w) A (forIn [0] PUnit.unit _) _ E _
  rw [List.forIn_cons]
  apply wpAny_bind
  apply wpAny_bind
  refine wpAny_dictEntries y.obj rfl ?_
  show wpAny (model p w) A (holding _ _ >>= _) _ E _
  apply wpAny_bind
  apply wpAny_holding
  rw [if_neg Bool.false_ne_true]
  have hk := y.his _ (List.mem_singleton.mpr rfl)
  refine dput_exact (s := ⟨h, g, dr, t, os⟩) hu x hk hn ?_
  have ho : (h.update d (putE k a v p w)).get? e = h.get? e := Heap.get?_update_ne _ _ _ _ hde
  apply wpAny_bind
  refine wpAny_dictEpoch (s := ⟨h.update d (putE k a v p w), g, dr, t, os⟩) (ho.trans y.obj) rfl ?_
  rw [if_neg (by simp)]
  refine wpAny_pure ?_
  show wpAny (model p w) A (forIn ([] : List Nat) PUnit.unit _) _ E _
  rw [List.forIn_nil]
  exact wpAny_pure (wpAny_pure q)
end
end Hd
end
end
section
set_option Elab.async false
set_option linter.all false
set_option maxRecDepth 100000
set_option maxHeartbeats 4000000
noncomputable section
namespace Hd
open PySem PySem.W PySem.Calls PyProof.Rows HandSHeadRun
section
variable {p : Program} {w : World} {A : Around} {E : Value → Shared → Prop} {env : Env}
theorem display18 {l : List (Sem Value × Sem Value)} {x : Sem Value × Sem Value} {s : Shared} {Q : Value → Shared → Prop} (hl : l.length = 17)
    (h : wpAny (model p w) A (subDict l) (fun d s1 => wpAny (model p w) A (subDict [x]) (fun e s2 => wpAny (model p w) A (mergeMapping d (.ref e) false) (fun _ s3 => Q (.ref d) s3) (fun _ _ => False) s2) E s1) E s) :
    wpAny (model p w) A (dictDisplay ((l ++ [x]).map fun y => (some y.1, y.2))) Q E s := by
  match l, hl with
  | [a1, a2, a3, a4, a5, a6, a7, a8, a9, a10, a11, a12, a13, a14, a15, a16, a17], _ =>
    unfold dictDisplay
    dsimp only
    simp only [List.cons_append, List.nil_append, List.map_cons, List.map_nil, List.forIn_cons, List.forIn_nil, List.length_cons, List.length_nil, pure_bind, Nat.reduceBEq, Nat.reduceAdd, Bool.false_eq_true, if_false, if_true, List.isEmpty_cons, List.isEmpty_nil]
    apply wpAny_bind
    apply wpAny_bind
    apply wpAny_bind
    apply wpAny_bind
    refine wpAny_mono h (fun d s1 h1 => ?_) fun _ _ z => z
    refine wpAny_pure (wpAny_pure (wpAny_pure ?_))
    dsimp only
    apply wpAny_bind
    simp only [List.nil_append, List.length_cons, List.length_nil, Nat.reduceBEq, Nat.reduceAdd, Bool.false_eq_true, if_false]
    simp only [List.isEmpty_cons, Bool.false_eq_true, if_false]
    apply wpAny_bind
    apply wpAny_holding
    refine wpAny_mono h1 (fun e s2 h2 => ?_) fun _ _ z => z
    apply wpAny_bind
    apply wpAny_onRaise
    apply wpAny_holding
    refine wpAny_mono h2 (fun _ s3 h3 => ?_) fun _ _ z => z.elim
    exact wpAny_pure (wpAny_pure h3)

/-- what the display leaves: the state, exactly -/
def dispS (p : Program) (w : World) (s : Shared) (kvs : List (List PySem.Str × List PySem.Str)) (kv : List PySem.Str × List PySem.Str) : Shared :=
  let s1 := kvs.foldl (addP p w s.heap.objs.size) (pushD s)
  let s2 := addP p w s1.heap.objs.size (pushD s1) kv
  { s2 with heap := s2.heap.update s.heap.objs.size (putE kv.1 (pushD s1).heap.objs.size (.ref ((pushD s1).heap.objs.size + 1)) p w) }
theorem DS.upd {h : Heap} {d e : Addr} {xs : List (List PySem.Str × Addr × Value)} {ep : Nat} {k : List PySem.Str} {a : Addr} {v : Value} (x : DS p w h d xs ep) (ne : d ≠ e) (nk : ∀ y ∈ xs, y.2.1 ≠ e) : DS p w (h.update e (putE k a v p w)) d xs ep :=
  ⟨(Heap.get?_update_ne _ _ _ _ ne).trans x.obj, fun y hy => Hd.IsTupleKey.up (x.his y hy) fun o q => (Heap.get?_update_ne _ _ _ _ (nk y hy)).trans q, x.nod, x.len⟩
theorem DS.lt {h : Heap} {d : Addr} {xs : List (List PySem.Str × Addr × Value)} {ep : Nat} (x : DS p w h d xs ep) : d < h.objs.size := Heap.lt_size x.obj
theorem IsTupleKey.lt {h : Heap} {ks : List PySem.Str} {a : Addr} (x : IsTupleKey (strKind p w) h ks a) : a < h.objs.size := by
  obtain ⟨o, items, n, ho, r⟩ := x
  exact Heap.lt_size ho
theorem ev_disp {l : List (PySem.Expr × PySem.Expr)} {e : PySem.Expr × PySem.Expr} {kvs : List (List PySem.Str × List PySem.Str)} {kv : List PySem.Str × List PySem.Str} {keys : List (Option PySem.Expr)} {values : List PySem.Expr} {pos : Pos} {s : Shared} {Q : Value → Shared → Prop}
    (hu : A.units < cLine) (hl : l.length = 17) (hsh : (evalEachOpt keys env).zip ((evalEach values env).map fun v => do let x ← v; standAt pos; pure x) = ((prs env pos (l ++ [e])).map fun y => (some y.1, y.2)))
    (hs : Says l kvs) (h1 : tupOf e.1 = some kv.1) (h2 : tupOf e.2 = some kv.2) (l1 : kv.1.length ≤ 10) (l2 : kv.2.length ≤ 10) (hn : (kvs.map (·.1)).Nodup) (hk : kvs.length = 17) (hnk : kv.1 ∉ kvs.map (·.1)) (hlow : sysModules < s.heap.objs.size)
    (q : (∃ xs ep, DS p w (dispS p w s kvs kv).heap s.heap.objs.size xs ep ∧ xs.map (·.1) = kvs.map (·.1) ++ [kv.1]) → Q (.ref s.heap.objs.size) (dispS p w s kvs kv)) : wpAny (model p w) A (eval (.Dict keys values pos) env) Q E s := by
  rw [arm_eval_Dict, hsh]
  refine wpAny_bind (wpAny_standAt ?_)
  have e0 : prs env pos (l ++ [e]) = prs env pos l ++ prs env pos [e] := by
    unfold prs
    rw [List.map_append]
  rw [e0]
  refine display18 (x := (eval e.1 env, do let v ← eval e.2 env; standAt pos; pure v)) (by unfold prs; rw [List.length_map]; exact hl) ?_
  refine sub_long hu (by omega) hs hn (by omega) fun xs ep x hx => ?_
  refine sub_one hu h1 h2 l1 l2 fun y => ?_
  have hs1 : s.heap.objs.size < (kvs.foldl (addP p w s.heap.objs.size) (pushD s)).heap.objs.size := x.lt
  have nde : (kvs.foldl (addP p w s.heap.objs.size) (pushD s)).heap.objs.size ≠ s.heap.objs.size := by omega
  have nx : xs ≠ [] := by
    intro c
    rw [c] at hx
    have z := congrArg List.length hx
    rw [List.length_map, List.length_map, hk] at z
    cases z
  have nkx : kv.1 ∉ xs.map (·.1) := by
    rw [hx]
    exact hnk
  have x2 : DS p w (addP p w (kvs.foldl (addP p w s.heap.objs.size) (pushD s)).heap.objs.size (pushD (kvs.foldl (addP p w s.heap.objs.size) (pushD s))) kv).heap s.heap.objs.size xs ep := by
    exact DS.upd (((x.push _).push _).push _) nde.symm fun z hz => Nat.ne_of_lt (Hd.IsTupleKey.lt (x.his z hz))
  refine merge_exact hu nde ?_ nx x2 y nkx ?_
  · exact beq_eq_false_iff_ne.mpr (Nat.ne_of_gt (Nat.lt_trans hlow hs1))
  · refine q ⟨xs ++ [(kv.1, _, _)], ep + 1, DS.put x2 (y.his _ (List.mem_singleton.mpr rfl)) nkx ?_, ?_⟩
    · have z := congrArg List.length hx
      rw [List.length_map, List.length_map, hk] at z
      omega
    · rw [List.map_append, hx]
      rfl
end
end Hd
end
end
section
set_option Elab.async false
set_option linter.all false
set_option maxRecDepth 100000
set_option maxHeartbeats 4000000
noncomputable section
namespace Hd
open PySem PySem.W PySem.Calls PyProof.Rows HandSHeadRun
section
variable {p : Program} {w : World} {A : Around} {E : Value → Shared → Prop} {env : Env}
def nsS (w : World) (s : Shared) (a : Addr) (name : PySem.Str) (v : Value) : Shared :=
  { s with heap := s.heap.update a (Obj.putName name (hashStr w name) (.str name s.toks) v), toks := s.toks + 1 }
theorem nsset_exact {s : Shared} {a : Addr} {m : PySem.Str → Option Value} {name : PySem.Str} {v : Value} {Q : Unit → Shared → Prop} (hn : s.heap.Ns a m) (q : Q () (nsS w s a name v)) : wpAny (model p w) A (nsSet a name v) Q E s := fun Γ pos _ => by
  obtain ⟨o, es, ep, ho, hd, hk, hm⟩ := hn
  have hany : es.any (·.refKey) = false := by
    rw [Array.any_eq_false']
    intro e he
    obtain ⟨n, t, h⟩ := hk e he
    simp [DictEntry.refKey, h]
  simp only [nsSet, strHash, Sem.wp_bind', Sem.wp_cmd_ask, Sem.wp_pure', Sem.wp_cmd_mkText]
  refine (Sem.wp_loadPart_of (model p w) Γ _ pos { s with toks := s.toks + 1 } _ (o := o) ho _).mpr ?_
  simp only [hd, aRefKeyMayBeTheName_eq, aRefKeyMayBeTheNameByArray, hany, Bool.and_false, Bool.false_eq_true, if_false]
  refine (Sem.wp_cmd_updatePart (model p w) Γ _ pos { s with toks := s.toks + 1 } _ _ _ _).mpr ⟨?_, q⟩
  rw [ho]
  rfl

/-! ### the same over the tree -/
def pushTT (s : SharedT) (o : Obj) (k : Nat) : Option SharedT := match ((s.tree.ins s.n o).get s.n).isSome with
  | true => some { s with tree := s.tree.ins s.n o, n := s.n + 1, toks := s.toks + k }
  | false => none
theorem pushTT_abs {s s' : SharedT} {o : Obj} {k : Nat} (h : pushTT s o k = some s') : s'.abs = { s.abs with heap := s.abs.heap.push o, toks := s.abs.toks + k } := by
  unfold pushTT at h
  cases e : ((s.tree.ins s.n o).get s.n).isSome with
  | false =>
    rw [e] at h
    cases h
  | true =>
    rw [e] at h
    have e2 := Option.some.inj h
    rw [← e2]
    show (⟨absHeap (s.tree.ins s.n o) (s.n + 1) s.life, s.gens, s.drawn, s.toks + k, s.os⟩ : Shared) = _
    rw [absHeap_ins e]
    rfl
def updTT (s : SharedT) (a : Addr) (f : Obj → Obj) (k : Nat) : Option SharedT := match s.tree.get a with
  | some _ => some { s with tree := s.tree.set a f, toks := s.toks + k }
  | none => none
theorem updTT_abs {s s' : SharedT} {a : Addr} {f : Obj → Obj} {k : Nat} (h : updTT s a f k = some s') : s'.abs = { s.abs with heap := s.abs.heap.update a f, toks := s.abs.toks + k } := by
  unfold updTT at h
  cases e : s.tree.get a with
  | none =>
    rw [e] at h
    cases h
  | some o =>
    rw [e] at h
    have e2 := Option.some.inj h
    rw [← e2]
    show (⟨absHeap (s.tree.set a f) s.n s.life, s.gens, s.drawn, s.toks + k, s.os⟩ : Shared) = _
    rw [absHeap_set e]
    rfl
theorem abs_size (s : SharedT) : s.abs.heap.objs.size = s.n := absHeap_size _ _ _
theorem abs_toks (s : SharedT) : s.abs.toks = s.toks := rfl
def addTT (p : Program) (w : World) (d : Addr) (s : SharedT) (kv : List PySem.Str × List PySem.Str) : Option SharedT := match pushTT s (tupObj kv.1 s.toks) kv.1.length with
  | some s1 => match pushTT s1 (tupObj kv.2 s1.toks) kv.2.length with
    | some s2 => match updTT s2 d (putE kv.1 s.n (.ref (s.n + 1)) p w) (kv.1.length + 1) with
      | some s3 => frS s3 some
      | none => none
    | none => none
  | none => none
theorem addTT_abs {d : Addr} {s s' : SharedT} {kv : List PySem.Str × List PySem.Str} (h : addTT p w d s kv = some s') : s'.abs = addP p w d s.abs kv := by
  unfold addTT at h
  cases e1 : pushTT s (tupObj kv.1 s.toks) kv.1.length with
  | none =>
    rw [e1] at h
    cases h
  | some s1 =>
    rw [e1] at h
    dsimp only at h
    cases e2 : pushTT s1 (tupObj kv.2 s1.toks) kv.2.length with
    | none =>
      rw [e2] at h
      cases h
    | some s2 =>
      rw [e2] at h
      dsimp only at h
      cases e3 : updTT s2 d (putE kv.1 s.n (.ref (s.n + 1)) p w) (kv.1.length + 1) with
      | none =>
        rw [e3] at h
        cases h
      | some s3 =>
        rw [e3] at h
        dsimp only at h
        rw [frS_eq] at h
        have e4 := Option.some.inj h
        rw [← e4, updTT_abs e3]
        have a1 : s1.abs = pushT s.abs kv.1 := pushTT_abs e1
        have a2 : s2.abs = pushT s1.abs kv.2 := pushTT_abs e2
        rw [a2, a1]
        unfold addP
        rw [abs_size]
def foldTT (p : Program) (w : World) (d : Addr) : List (List PySem.Str × List PySem.Str) → SharedT → Option SharedT
  | [], s => some s
  | kv :: r, s => match addTT p w d s kv with
    | some s' => foldTT p w d r s'
    | none => none
theorem foldTT_abs {d : Addr} : ∀ {l : List (List PySem.Str × List PySem.Str)} {s s' : SharedT}, foldTT p w d l s = some s' → s'.abs = l.foldl (addP p w d) s.abs
  | [], s, s', h => by
    have e := Option.some.inj h
    rw [← e]
    rfl
  | kv :: r, s, s', h => by
    unfold foldTT at h
    cases e : addTT p w d s kv with
    | none =>
      rw [e] at h
      cases h
    | some s1 =>
      rw [e] at h
      rw [foldTT_abs h, addTT_abs e]
      rfl
def dispTT (p : Program) (w : World) (s : SharedT) (kvs : List (List PySem.Str × List PySem.Str)) (kv : List PySem.Str × List PySem.Str) : Option SharedT := match pushTT s { cls := .type "dict", data := .dict #[] } 0 with
  | some s0 => match foldTT p w s.n kvs s0 with
    | some s1 => match pushTT s1 { cls := .type "dict", data := .dict #[] } 0 with
      | some s2 => match addTT p w s1.n s2 kv with
        | some s3 => match updTT s3 s.n (putE kv.1 s2.n (.ref (s2.n + 1)) p w) 0 with
          | some s4 => frS s4 some
          | none => none
        | none => none
      | none => none
    | none => none
  | none => none
theorem pushD_abs {s s' : SharedT} (h : pushTT s { cls := .type "dict", data := .dict #[] } 0 = some s') : s'.abs = pushD s.abs := pushTT_abs h
theorem dispTT_abs {s s' : SharedT} {kvs : List (List PySem.Str × List PySem.Str)} {kv : List PySem.Str × List PySem.Str} (h : dispTT p w s kvs kv = some s') : s'.abs = dispS p w s.abs kvs kv := by
  unfold dispTT at h
  cases e0 : pushTT s { cls := .type "dict", data := .dict #[] } 0 with
  | none =>
    rw [e0] at h
    cases h
  | some s0 =>
    rw [e0] at h
    dsimp only at h
    cases e1 : foldTT p w s.n kvs s0 with
    | none =>
      rw [e1] at h
      cases h
    | some s1 =>
      rw [e1] at h
      dsimp only at h
      cases e2 : pushTT s1 { cls := .type "dict", data := .dict #[] } 0 with
      | none =>
        rw [e2] at h
        cases h
      | some s2 =>
        rw [e2] at h
        dsimp only at h
        cases e3 : addTT p w s1.n s2 kv with
        | none =>
          rw [e3] at h
          cases h
        | some s3 =>
          rw [e3] at h
          dsimp only at h
          cases e4 : updTT s3 s.n (putE kv.1 s2.n (.ref (s2.n + 1)) p w) 0 with
          | none =>
            rw [e4] at h
            cases h
          | some s4 =>
            rw [e4] at h
            dsimp only at h
            rw [frS_eq] at h
            have e5 := Option.some.inj h
            have a1 := foldTT_abs e1
            rw [pushD_abs e0] at a1
            have a2 := pushD_abs e2
            have a3 := addTT_abs e3
            rw [← e5, updTT_abs e4, a3, a2]
            unfold dispS
            dsimp only
            rw [← abs_size s2, a2, a1, ← abs_size s1, a1, ← abs_size s]
            rfl
def nsTT (w : World) (s : SharedT) (a : Addr) (name : PySem.Str) (v : Value) : Option SharedT := updTT s a (Obj.putName name (hashStr w name) (.str name s.toks) v) 1
theorem nsTT_abs {s s' : SharedT} {a : Addr} {name : PySem.Str} {v : Value} (h : nsTT w s a name v = some s') : s'.abs = nsS w s.abs a name v := updTT_abs h
end
end Hd
end
end
section
set_option Elab.async false
set_option linter.all false
set_option maxRecDepth 100000
set_option maxHeartbeats 0
noncomputable section
namespace Hd
open PySem PySem.W PySem.Calls PyProof.Rows HandSHeadRun
abbrev P : Program := PySem.Challenge.pw_sevenpoints_k13_whole_counts_along_edges
abbrev R : OpenRow := OpenLaw.row PySem.Challenge.rw_sevenpoints_k13_whole_counts_along_edges
@[irreducible] def env0 : Env := { scope := P.main.scope, locals := mainNs, globals := mainNs, cells := [], code := .ref 13, frame := some 14 }
@[irreducible] def pA : List Stmt := P.main.body.take 45
@[irreducible] def pF : Stmt := P.main.body.getD 45 (.Pass ⟨0, 0, 0, 0⟩)
@[irreducible] def pB : List Stmt := P.main.body.drop 46
abbrev zPos : Pos := ⟨0, 0, 0, 0⟩
abbrev cBody : Code := .body P.main.body env0
abbrev cCall : Code := .builtin "claim.caller" {}
/-- the thread at the body's begin -/
def tBody (den : Code → Sem Fin) : Thread := ⟨den cBody, cBody, zPos, [topFrame zPos]⟩
def headT (st : SharedT → Thread → Option (SharedT × Thread)) (w : World) (os : OsState) : Option (SharedT × Thread) := match putAll (boot_heap w.params).objs.toList .nil 0 with
  | some (t, n) => frNat n fun n0 => stepsT st n0 (bootAnn w) 12 (bootT w os (t, n0)) (topStub P)
  | none => none
theorem head_thread (w : World) (os : OsState) : (headT (stepQ (denQ tabQ) P w) w os).map (fun r => r.2) = some (tBody (denQ tabQ)) := by
  kernel_rfl
theorem boot_size (w : World) : (boot_heap w.params).objs.size = 11 := by kernel_rfl
def thA (den : Code → Sem Fin) : Thread := ⟨den (.body pA env0), cBody, zPos, [frN cCall zPos]⟩
def thB (den : Code → Sem Fin) (q : Pos) : Thread := ⟨den (.body pB env0), cBody, q, [frN cCall zPos]⟩
/-! ### the display -/
def dKeys : Stmt → List (Option PySem.Expr)
  | .Assign _ (.Dict ks _ _) _ => ks
  | _ => []
def dVals : Stmt → List PySem.Expr
  | .Assign _ (.Dict _ vs _) _ => vs
  | _ => []
@[irreducible] def fKV : List (PySem.Expr × PySem.Expr) := (dKeys pF).filterMap (fun x => x) |>.zip (dVals pF)
def kvOf (e : PySem.Expr × PySem.Expr) : List PySem.Str × List PySem.Str := ((tupOf e.1).getD [], (tupOf e.2).getD [])
@[irreducible] def fL : List (PySem.Expr × PySem.Expr) := fKV.take 17
@[irreducible] def fE : PySem.Expr × PySem.Expr := fKV.getD 17 (.Name "x" zPos, .Name "x" zPos)
@[irreducible] def kvL : List (List PySem.Str × List PySem.Str) := fL.map kvOf
@[irreducible] def kvE : List PySem.Str × List PySem.Str := kvOf fE
def chain (den : Code → Sem Fin) (w : World) (os : OsState) (q : Pos) : Option (Bool × SharedT) := (headT (stepQ den P w) w os).bind fun r =>
  (goF (stepQ den P w) 11 (bootAnn w) 6000 r.1 (thA den)).bind fun s1 =>
  (dispTT P w s1 kvL kvE).bind fun s2 =>
  (nsTT w s2 mainNs "FORMS" (.ref s1.n)).bind fun s3 =>
  (frS s3 fun s3 => goF (stepQ den P w) 11 (bootAnn w) 6000 s3 (thB den q)).bind fun s4 =>
  some (s1.gens.size == 0 && (s2.abs.heap.isNs mainGlobals && Nat.ble 11 s1.n), s4)
abbrev qv : Program := view R.prog [93]
def others : List PySem.Str := P.main.scope.names.map (·.1) |>.filter fun x => x != ("law" : PySem.Str)
end Hd
end
end
section
set_option Elab.async false
set_option linter.all false
set_option autoImplicit false
set_option maxRecDepth 100000
namespace Sv
open PySem PySem.Spec PyProof.Rows L2 He
def topS (i : Nat) : Stmt := PySem.Challenge.pw_sevenpoints_k13_whole_counts_along_edges.main.body.getD i (.Pass ⟨0, 0, 0, 0⟩)
def clsS (i j : Nat) : Stmt := (C8.clsBody (topS i)).getD j (.Pass ⟨0, 0, 0, 0⟩)
def formsT : List (List Str × List Str) := [
  (["statement", "set"], ["name", "value"]), (["statement", "if"], ["condition", "block", "block"]), (["statement", "while"], ["condition", "block"]), (["statement", "loop"], ["block"]),
  (["statement", "break"], []), (["statement", "next"], []), (["statement", "give"], ["operand"]), (["statement", "skip"], []),
  (["value", "as"], ["operand"]), (["value", "plus"], ["operand", "operand"]), (["value", "less"], ["operand", "operand"]), (["value", "times"], ["operand", "factor"]),
  (["condition", "below"], ["operand", "operand"]), (["condition", "most"], ["operand", "operand"]), (["condition", "is"], ["operand", "operand"]),
  (["condition", "not"], ["condition"]), (["condition", "and"], ["condition", "condition"]), (["condition", "or"], ["condition", "condition"])]
def insB (K : PySem.W.Frag) (C : Addr) : Bool := decide (PySem.W.findIn K (.ref C) "__class__" = some (some (.builtin "object.__class__"))) && (decide (PySem.W.specialIn K (.builtin "object.__class__") "__get__" = some (some (.builtin "getset_descriptor.__get__"))) &&
  (decide (PySem.W.takesIn K (.builtin "object.__class__") = some true) && (decide (PySem.W.mroIn K C (.type "object") = some true) && decide (PySem.W.kitOne K (.ref C) (.ref C) = some true))))
def oexB (K : PySem.W.Frag) (C : Addr) : Bool := (match K.lookup C with
  | some ⟨.type t, _, .cls cd, sl⟩ => (match cd.mro, sl.toList with
    | .ref C' :: bm, [_, _, _, _, some (.builtin n), _] => decide (t = "type") && (decide (C' = C) && (decide (n = "ValueError.__new__") && (!cd.hasDel && (cd.hasDict && PySem.HandSPX.refsVE bm))))
    | _, _ => false)
  | _ => false) && (decide (PySem.W.findIn K (.ref C) "__setattr__" = some (some (.builtin "object.__setattr__"))) && (decide (PySem.W.subIn K (.ref C) (.type "BaseException") = some true) && (decide (PySem.W.typeIn K (.ref C) = some (.type "type")) && PySem.W.keepIn K (.ref C))))
def isBuiltinVal : Option PySem.W.CFound → String → Bool
  | some (.val (.builtin n)), m => decide (n = m)
  | _, _ => false
def peB (K : PySem.W.Frag) (C : Addr) : Bool := PySem.W.readsIn K C (.type "type") && (isBuiltinVal (PySem.W.findCls K (.ref C) (.type "type") "__init__") "ValueError.__init__" && decide (PySem.W.specialIn K (.ref C) "__getattribute__" = some (some (.builtin "type.__getattribute__"))))
def errB (K : PySem.W.Frag) (C : Addr) : Bool := oexB K C && (decide (PySem.W.findIn K (.ref C) "value" = some none) && (decide (PySem.W.findIn K (.ref C) "what" = some none) && (decide (PySem.W.findIn K (.ref C) "__init__" = some (some (.ref (ma K C "__init__")))) && decide (PySem.W.typeIn K (.ref (ma K C "__init__")) = some (.type "function")))))
def dFn (x : Str) (st : Stmt) : DefD := ⟨(x, none), x, x, C8.fnArgs st, C8.fnBody st, C8.fnScope st, [], []⟩
def dMe (C m q : Str) (st : Stmt) : DefD := ⟨(C, some m), m, q, C8.fnArgs st, C8.fnBody st, C8.fnScope st, [], []⟩
abbrev FoV : Type := Option (List (Int × Option (List Str) × Option (List Str)))
def allStr : List Value → Option (List Str)
  | [] => some []
  | .str x _ :: r => (allStr r).map fun l => x :: l
  | _ => none
def strTup (K : PySem.W.Frag) : Value → Option (List Str)
  | .ref a => (match K.lookup a with
    | some ⟨.type c, _, .seq its _, _⟩ => if c = "tuple" then (if its.size ≤ 10 then allStr its.toList else none) else none
    | _ => none)
  | _ => none
def formsW (K : PySem.W.Frag) : FoV := match K.lookup (ga K "FORMS") with
  | some ⟨.type c, none, .dict es _, sl⟩ => if c = "dict" then (if sl.isEmpty then some (es.toList.map fun e => (e.hash, strTup K e.key, strTup K e.val)) else none) else none
  | _ => none
def formsV (P : Program) (w : World) : FoV := some (formsT.map fun kf => ((tupleKind (strKind P w)).hash kf.1, some kf.1, some kf.2))
def faL : List Fa := [
  .free "len",
  .free "isinstance",
  .free "abs",
  .free "sum",
  .free "any",
  .free "all",
  .free "range",
  .free "enumerate",
  .free "zip",
  .free "int",
  .free "bool",
  .free "str",
  .free "tuple",
  .free "list",
  .free "dict",
  .int "BEGIN" 0,
  .int "END" 1,
  .int "FINISH" 2,
  .glo "PAIRS_graphs",
  .glo "KEYWORDS",
  .str "LETTERS" "abcdefghijklmnopqrstuvwxyz",
  .str "DIGITS" "0123456789",
  .int "GREATEST" 999999999,
  .int "GREATEST_FACTOR" 999,
  .int "MOST_INPUTS" 4,
  .int "MOST_STATEMENTS" 40,
  .int "MOST_PAIRS" 6,
  .int "MOST_PARTS" 20,
  .int "MOST_NAMES" 8,
  .glo "LOOPS",
  .glo "PAIRS_programs",
  .glo "is_int",
  .glo "is_row",
  .glo "check_from_0",
  .glo "as_tuples",
  .glo "values_at",
  .glo "operand_value",
  .glo "value_of",
  .glo "holds",
  .glo "is_inputs",
  .glo "check_rows",
  .glo "graph_of",
  .glo "is_open",
  .glo "tally",
  .glo "counts",
  .glo "is_name",
  .glo "is_plain",
  .glo "form_of",
  .glo "check_block",
  .glo "check_part",
  .glo "blocks_of",
  .glo "statements_in",
  .glo "parts_in",
  .glo "items_behind",
  .glo "mentioned",
  .glo "unlike_ones",
  .glo "_law_pen",
  .glo "_law_draw",
  .glo "_law_pick",
  .glo "_law_far",
  .glo "_law_is_int",
  .glo "_law_listed",
  .glo "_law_some_operand",
  .glo "_law_some_value",
  .glo "_law_some_pair",
  .glo "_law_some_condition",
  .glo "_law_plain_statement",
  .glo "_law_some_block",
  .glo "_law_size",
  .glo "_law_some_program",
  .glo "_law_fresh",
  .glo "_law_stand_condition",
  .glo "_law_stand_statement",
  .glo "_law_stand_block",
  .glo "_law_graph",
  .glo "_law_value_of",
  .glo "_law_pair_holds",
  .glo "_law_relisted",
  .glo "_law_program_of",
  .glo "_law_inputs",
  .glo "_law_pairs",
  .glo "_law_turn",
  .glo "_law_go_condition",
  .glo "_law_go_block",
  .glo "_law_go_statement",
  .glo "_law_go_round",
  .glo "_law_run",
  .glo "_law_counted",
  .glo "_law_flows",
  .glo "_law_fault",
  .cls "Edge",
  .noat "Edge" "start",
  .noat "Edge" "deed",
  .noat "Edge" "end",
  .glo "Edge",
  .mkr "Edge",
  .cls "Graph",
  .noat "Graph" "points",
  .noat "Graph" "edges",
  .glo "Graph",
  .mkr "Graph",
  .cls "Builder",
  .noat "Builder" "many",
  .noat "Builder" "made",
  .glo "Builder",
  .mkr "Builder",
  .meth "Builder" "fresh",
  .meth "Builder" "tie",
  .meth "Builder" "stand_block",
  .meth "Builder" "stand_statement",
  .meth "Builder" "plain",
  .meth "Builder" "stand_condition",
  .cls "Program",
  .noat "Program" "name",
  .noat "Program" "inputs",
  .noat "Program" "block",
  .glo "Program",
  .mkr "Program",
  .meth "Program" "names",
  .glo "BadRow",
  .glo "BadNumber",
  .glo "PointError",
  .glo "FORMS",
  .exm "BadRow" "BadRow" true,
  .exm "BadNumber" "BadRow" false,
  .exm "BadNumber" "BadNumber" true,
  .glo "law"]
def fnL : List DefD := [
  dFn "is_int" (topS 8),
  dFn "is_row" (topS 9),
  dFn "check_from_0" (topS 10),
  dFn "as_tuples" (topS 11),
  dFn "values_at" (topS 13),
  dFn "operand_value" (topS 14),
  dFn "value_of" (topS 15),
  dFn "holds" (topS 16),
  dFn "is_inputs" (topS 17),
  dFn "check_rows" (topS 18),
  dFn "graph_of" (topS 27),
  dFn "is_open" (topS 28),
  dFn "tally" (topS 30),
  dFn "counts" (topS 31),
  dFn "is_name" (topS 46),
  dFn "is_plain" (topS 47),
  dFn "form_of" (topS 48),
  dFn "check_block" (topS 49),
  dFn "check_part" (topS 50),
  dFn "blocks_of" (topS 51),
  dFn "statements_in" (topS 52),
  dFn "parts_in" (topS 53),
  dFn "items_behind" (topS 54),
  dFn "mentioned" (topS 55),
  dFn "unlike_ones" (topS 56),
  dFn "_law_pen" (topS 59),
  dFn "_law_draw" (topS 60),
  dFn "_law_pick" (topS 61),
  dFn "_law_far" (topS 62),
  dFn "_law_is_int" (topS 63),
  dFn "_law_listed" (topS 64),
  dFn "_law_some_operand" (topS 65),
  dFn "_law_some_value" (topS 66),
  dFn "_law_some_pair" (topS 67),
  dFn "_law_some_condition" (topS 68),
  dFn "_law_plain_statement" (topS 69),
  dFn "_law_some_block" (topS 70),
  dFn "_law_size" (topS 71),
  dFn "_law_some_program" (topS 72),
  dFn "_law_fresh" (topS 73),
  dFn "_law_stand_condition" (topS 74),
  dFn "_law_stand_statement" (topS 75),
  dFn "_law_stand_block" (topS 76),
  dFn "_law_graph" (topS 77),
  dFn "_law_value_of" (topS 78),
  dFn "_law_pair_holds" (topS 79),
  dFn "_law_relisted" (topS 80),
  dFn "_law_program_of" (topS 81),
  dFn "_law_inputs" (topS 82),
  dFn "_law_pairs" (topS 83),
  dFn "_law_turn" (topS 84),
  dFn "_law_go_condition" (topS 85),
  dFn "_law_go_block" (topS 86),
  dFn "_law_go_statement" (topS 87),
  dFn "_law_go_round" (topS 88),
  dFn "_law_run" (topS 89),
  dFn "_law_counted" (topS 90),
  dFn "_law_flows" (topS 91),
  dFn "_law_fault" (topS 92),
  dMe "Edge" "__init__" "Edge.__init__" (clsS 24 0),
  dMe "Graph" "__init__" "Graph.__init__" (clsS 25 0),
  dMe "Builder" "__init__" "Builder.__init__" (clsS 26 0),
  dMe "Builder" "fresh" "Builder.fresh" (clsS 26 1),
  dMe "Builder" "tie" "Builder.tie" (clsS 26 2),
  dMe "Builder" "stand_block" "Builder.stand_block" (clsS 26 3),
  dMe "Builder" "stand_statement" "Builder.stand_statement" (clsS 26 4),
  dMe "Builder" "plain" "Builder.plain" (clsS 26 5),
  dMe "Builder" "stand_condition" "Builder.stand_condition" (clsS 26 6),
  dMe "Program" "__init__" "Program.__init__" (clsS 57 0),
  dMe "Program" "names" "Program.names" (clsS 57 2),
  dMe "BadRow" "__init__" "BadRow.__init__" (clsS 5 0),
  dMe "BadNumber" "__init__" "BadNumber.__init__" (clsS 2 0),
  dFn "law" (topS 93)]
def tfL : List Defn := [("law", none)]
def tupS (K : PySem.W.Frag) (x : Str) (l : List Str) : Bool := tupB K x (l.map Dv.str)
def exL (K : PySem.W.Frag) : Bool := (tupS K "PAIRS_graphs" (["below", "most", "is"] : List Str) && (tupS K "KEYWORDS" (["program", "of", "if", "else", "while", "loop", "end", "break", "next", "give", "skip", "plus", "less", "times", "below", "most", "is", "not", "and", "or"] : List Str) && (tupS K "LOOPS" (["while", "loop"] : List Str) && (tupS K "PAIRS_programs" (["below", "most", "is"] : List Str) && (insB K (ga K "Edge") && (decide (PySem.W.kitAny K (.ref (ga K "Edge")) [.type "tuple", .type "list"] = some false) && (errB K (ga K "BadRow") && (errB K (ga K "BadNumber") && (xfB K (ga K "BadRow") && (xfB K (ga K "BadNumber") && (peB K (ga K "PointError") && (decide (ga K "Graph" ≠ ga K "Edge") && !(ga K "FORMS" == sysModules)))))))))))))
def refsL (o : Obj) : List Addr := refsD o ++ match o.data with
  | .dict es _ => es.toList.flatMap fun e => refV e.key
  | _ => []
def lvl (g : Addr → Option Obj) : Nat → List Addr → List Addr
  | 0, as => as
  | n + 1, as => as ++ lvl g n (as.flatMap fun a => match g a with
    | some o => refsL o
    | none => [])
def KL (g : Addr → Option Obj) : PySem.W.Frag := frT g (lvl g 4 [mainGlobals, cStatics])
abbrev AlL : Type := AlD × Bool × FoV
def obsL (g : Addr → Option Obj) : AlL := (obsD faL fnL (KL g), exL (KL g) && tabsB g tfL (KL g), formsW (KL g))
def valL (P : Program) (w : World) : AlL := (valD fnL, true, formsV P w)
end Sv
end
section
set_option Elab.async false
set_option linter.all false
set_option maxRecDepth 100000
set_option maxHeartbeats 0
noncomputable section
namespace Hd
open PySem PySem.W PySem.Calls PyProof.Rows HandSHeadRun
theorem run_early (w : World) (os : OsState) (q : Pos) : (chain (denQ tabQ) w os q).map (fun r => (r.1, looksF P (boot_heap w.params) r.2.abs, seenQ qv others (importedModules P.main.body) (fun s => xlAt qv [] s && recOk R.toRowW.records s) r.2.abs, Sv.obsL (getT r.2))) = some (true, true, openGood qv others, Sv.valL P w) := by
  kernel_rfl
end Hd
end
end
section
set_option Elab.async false
set_option linter.all false
set_option maxRecDepth 100000
set_option maxHeartbeats 4000000
noncomputable section
namespace Hd
open PySem PySem.W PySem.Calls PyProof.Rows HandSHeadRun

theorem runs_bodyE {p : Program} {w : World} {Γ : Ctx} {q : Pos} {s : Shared} {env : Env} {S : Shared → Prop} {A : List Stmt} (hann : hasAnns A = false) (hdoc : docOf A = none) (h : Sem.wp (model p w) Γ (execs A env) (fun f _ u => f = .next ∧ S u) (ELv p w Γ env) q s) :
    ∃ u, Runs (model p w) Γ q (denote table (.body A env)) [] s (.ret (.ok .next)) u ∧ S u := by
  have h2 : Sem.wp (model p w) Γ (do blockStart A env; return Fin.done (← (execs A env).onRaise (leaving env))) (Sem.finPost (model p w) Γ fun r u => r = .ok .next ∧ S u) (fun e _ u => (Except.error e : Result) = .ok .next ∧ S u) q s := by
    rw [block_start hann hdoc, Sem.wp_bind', Sem.wp_pure', Sem.wp_bind', Sem.wp_onRaise]
    refine Sem.wp_mono _ _ _ (fun f p1 u hq => ?_) (fun e p1 u hq => ?_) _ _ h
    · rw [Sem.wp_pure']
      obtain ⟨rfl, hS⟩ := hq
      exact ⟨rfl, hS⟩
    · exact Sem.wp_mono _ _ _ (fun _ _ _ z => z.elim) (fun _ _ _ z => z.elim) _ _ hq
  obtain ⟨r, u, hr, rfl, hS⟩ := (Sem.wp_iff_runs (model p w) Γ (denote table (.body A env)) (fun r u => r = .ok .next ∧ S u) q s).mp h2
  exact ⟨u, hr, hS⟩

theorem bare_gens {s : Shared} (h : s.gens = #[]) : leftWithCleanup s.gens = false := by
  rw [h]
  simp [leftWithCleanup]
theorem halt_of_runs {p : Program} {w : World} {s s' : Shared} {X : Sem Fin} {c : Code} {q pb : Pos} (hg : s'.gens = #[]) (hr : Runs (model p w) ⟨c, none, none, [(cCall, pb)], none⟩ q X [] s (.ret (.ok .next)) s') : Halt p w s ⟨X, c, q, [topFrame pb]⟩ (.ret .none) s' := by
  have seg : Runs (model p w) ⟨c, none, none, [], none⟩ q X [topFrame pb] s (.ret (.ok (.ret .none))) s' := by
    refine .segRet (r := .ok .next) (s₁ := s') hr ?_
    show Runs (model p w) _ pb (.pure (.done (.ret .none))) [] s' (.ret (.ok (.ret .none))) s'
    exact .done
  obtain ⟨n, hn⟩ := halts_iff.mpr ⟨seg, bare_gens hg⟩
  obtain ⟨m, u, hm, hf, hc⟩ := (halts_real_iff (M := model p w) (r := .ok (.ret .none)) (s := s) (t := X) (c := c) (p := q) (st := [topFrame pb]) s'.forget).mpr ⟨n, s', hn, rfl⟩
  have e : u = s' := Shared.eq_of_forget_eq hf hg
  subst e
  exact ⟨⟨m, hm⟩, hc⟩

/-! ### the display's statement -/
theorem evs_shape {env : Env} {pos : Pos} : ∀ l : List (PySem.Expr × PySem.Expr), (evalEachOpt (l.map fun x => some x.1) env).zip ((evalEach (l.map fun x => x.2) env).map fun v => do let x ← v; standAt pos; pure x) = ((prs env pos l).map fun y => (some y.1, y.2))
  | [] => rfl
  | e :: l => by
    have ih := evs_shape (env := env) (pos := pos) l
    show (some (eval e.1 env), (do let x ← eval e.2 env; standAt pos; pure x)) :: (evalEachOpt (l.map fun x => some x.1) env).zip ((evalEach (l.map fun x => x.2) env).map fun v => do let x ← v; standAt pos; pure x) = _
    rw [ih]
    rfl
def okTup (e : PySem.Expr × PySem.Expr) : Bool := match tupOf e.1, tupOf e.2 with
  | some a, some b => Nat.ble a.length 10 && Nat.ble b.length 10
  | _, _ => false
theorem okTup_ok {e : PySem.Expr × PySem.Expr} (h : okTup e = true) : tupOf e.1 = some (kvOf e).1 ∧ tupOf e.2 = some (kvOf e).2 ∧ (kvOf e).1.length ≤ 10 ∧ (kvOf e).2.length ≤ 10 := by
  unfold okTup at h
  unfold kvOf
  cases e1 : tupOf e.1 with
  | none =>
    rw [e1] at h
    cases h
  | some a =>
    cases e2 : tupOf e.2 with
    | none =>
      rw [e1, e2] at h
      cases h
    | some b =>
      rw [e1, e2] at h
      have h2 := Bool.and_eq_true_iff.mp h
      exact ⟨rfl, rfl, Nat.le_of_ble_eq_true h2.1, Nat.le_of_ble_eq_true h2.2⟩
theorem says_of : ∀ l : List (PySem.Expr × PySem.Expr), l.all okTup = true → Says l (l.map kvOf)
  | [], _ => .nil
  | e :: l, h => by
    rw [List.all_cons] at h
    have h2 := Bool.and_eq_true_iff.mp h
    obtain ⟨a, b, c, d⟩ := okTup_ok h2.1
    exact .cons a b c d (says_of l h2.2)
def fP0 : Stmt → Pos
  | .Assign [.Name _ q] _ _ => q
  | _ => zPos
def fP1 : Stmt → Pos
  | .Assign _ (.Dict _ _ q) _ => q
  | _ => zPos
def fP2 : Stmt → Pos
  | .Assign _ _ q => q
  | _ => zPos
theorem pF_eq : pF = .Assign [.Name "FORMS" (fP0 pF)] (.Dict ((fL ++ [fE]).map fun x => some x.1) ((fL ++ [fE]).map fun x => x.2) (fP1 pF)) (fP2 pF) := by
  kernel_rfl
theorem body_eq : P.main.body = pA ++ pF :: pB := by kernel_rfl
theorem kv_nodup : (kvL.map (·.1)).Nodup ∧ kvE.1 ∉ kvL.map (·.1) := by decide +kernel
theorem kv_len : kvL.length = 17 ∧ fL.length = 17 := by decide +kernel
theorem kv_ok : fL.all okTup = true ∧ okTup fE = true := by decide +kernel
theorem store_top {env : Env} {x : PySem.Str} {v : Value} (hk : env.kindOf x = some .local) (hm : env.scope.kind = .module) (hl : env.locals = env.globals) : storeName env x v = nsSet env.locals x v := by
  unfold storeName
  have e1 : (if (env.kindOf x == some NameKind.globalImplicit && env.blockKind != ScopeKind.function) = true then none else env.kindOf x) = some NameKind.local := by
    rw [hk]
    rfl
  rw [e1]
  have e2 : (env.scope.kind == ScopeKind.class || (env.scope.kind == ScopeKind.module && env.locals != env.globals)) = false := by
    rw [hm, hl]
    simp
  dsimp only
  rw [e2]
  rfl
theorem env_facts : env0.kindOf "FORMS" = some .local := by kernel_rfl
theorem env_mod : env0.scope.kind = .module := by kernel_rfl
theorem env_loc : env0.locals = mainNs := by kernel_rfl
theorem env_glo : env0.globals = mainNs := by kernel_rfl
theorem kvL_eq : kvL = fL.map kvOf := by kernel_rfl
theorem kvE_eq : kvE = kvOf fE := by kernel_rfl
theorem kv_says : Says fL kvL := by
  rw [kvL_eq]
  exact says_of fL kv_ok.1
theorem kv_last : tupOf fE.1 = some kvE.1 ∧ tupOf fE.2 = some kvE.2 ∧ kvE.1.length ≤ 10 ∧ kvE.2.length ≤ 10 := by
  rw [kvE_eq]
  exact okTup_ok kv_ok.2
theorem store_forms (v : Value) : storeName env0 "FORMS" v = nsSet mainNs "FORMS" v := by
  rw [store_top env_facts env_mod (env_loc.trans env_glo.symm), env_loc]
theorem exec_dict {w : World} {A : Around} {env : Env} {l : List (PySem.Expr × PySem.Expr)} {e : PySem.Expr × PySem.Expr} {x : PySem.Str} {kvs : List (List PySem.Str × List PySem.Str)} {kv : List PySem.Str × List PySem.Str} {q0 q1 q2 : Pos} {s1 s2 s3 : SharedT} (hu : A.units < cLine) (hl : l.length = 17) (hs : Says l kvs)
    (he : tupOf e.1 = some kv.1 ∧ tupOf e.2 = some kv.2 ∧ kv.1.length ≤ 10 ∧ kv.2.length ≤ 10) (hk : kvs.length = 17) (hn : (kvs.map (·.1)).Nodup ∧ kv.1 ∉ kvs.map (·.1)) (hst : ∀ v, storeName env x v = nsSet mainNs x v)
    (h2 : dispTT P w s1 kvs kv = some s2) (h3 : nsTT w s2 mainNs x (.ref s1.n) = some s3) (ns2 : s2.abs.heap.isNs mainGlobals = true) (low : sysModules < s1.n) :
    wpAny (model P w) A (exec (.Assign [.Name x q0] (.Dict ((l ++ [e]).map fun x => some x.1) ((l ++ [e]).map fun x => x.2) q1) q2) env) (fun f u => f = .next ∧ u = s3.abs ∧ ∃ xs ep, DS P w s2.abs.heap s1.n xs ep ∧ xs.map (·.1) = kvs.map (·.1) ++ [kv.1]) (fun _ _ => False) s1.abs := by
  refine wpAny_Assign_Name ?_ rfl
  obtain ⟨a, b, c, d⟩ := he
  refine ev_disp hu hl (evs_shape _) hs a b c d hn.1 hk hn.2 (by rw [abs_size]; exact low) fun hD => ?_
  rw [← dispTT_abs h2, abs_size] at hD
  rw [← dispTT_abs h2, abs_size]
  obtain ⟨xs, ep, y, hx⟩ := hD
  have hns : s2.abs.heap.Ns mainNs (s2.abs.heap.nsMap mainNs) := Heap.Ns.of_isNs ns2
  rw [hst]
  exact nsset_exact hns ⟨rfl, (nsTT_abs h3).symm, xs, ep, y, hx⟩
theorem exec_forms {w : World} {A : Around} {s1 s2 s3 : SharedT} (hu : A.units < cLine) (h2 : dispTT P w s1 kvL kvE = some s2) (h3 : nsTT w s2 mainNs "FORMS" (.ref s1.n) = some s3) (ns2 : s2.abs.heap.isNs mainGlobals = true) (low : sysModules < s1.n) :
    wpAny (model P w) A (exec pF env0) (fun f u => f = .next ∧ u = s3.abs ∧ ∃ xs ep, DS P w s2.abs.heap s1.n xs ep ∧ xs.map (·.1) = kvL.map (·.1) ++ [kvE.1]) (fun _ _ => False) s1.abs := by
  have h := exec_dict (env := env0) (q0 := fP0 pF) (q1 := fP1 pF) (q2 := fP2 pF) hu kv_len.2 kv_says kv_last kv_len.1 kv_nodup store_forms h2 h3 ns2 low
  rw [← pF_eq] at h
  exact h
end Hd
end
end
section
set_option Elab.async false
set_option linter.all false
set_option maxRecDepth 100000
set_option maxHeartbeats 4000000
noncomputable section
namespace Hd
open PySem PySem.W PySem.Calls PyProof.Rows HandSHeadRun

abbrev bS (w : World) (os : OsState) : Shared := ⟨boot_heap w.params, #[], boot_drawn, boot_toks, os⟩
theorem head_ok {w : World} {os : OsState} {r : SharedT × Thread} (h : headT (stepT (denote table) P w) w os = some r) : Kept 11 (bootAnn w) (bS w os) r.1.abs ∧ ∀ f u, Halt P w r.1.abs r.2 f u → Halt P w (bS w os) (topStub P) f u := by
  unfold headT at h
  cases e : putAll (boot_heap w.params).objs.toList .nil 0 with
  | none =>
    rw [e] at h
    cases h
  | some x =>
    obtain ⟨t, n⟩ := x
    rw [e] at h
    have h1 : (frNat n fun n0 => stepsT (stepT (denote table) P w) n0 (bootAnn w) 12 (bootT w os (t, n0)) (topStub P)) = some r := h
    rw [frNat_eq] at h1
    have eh := putAll_heap e
    have en : n = 11 := by
      have z := absHeap_size t n (boot_heap w.params).life
      rw [eh, boot_size] at z
      exact z.symm
    have eb : (bootT w os (t, n)).abs = bS w os := by
      show (⟨absHeap t n (boot_heap w.params).life, #[], boot_drawn, boot_toks, os⟩ : Shared) = _
      rw [eh]
    subst en
    obtain ⟨u, v⟩ := r
    have h2 := stepsT_ok h1
    rw [eb] at h2
    exact go_kept h2
theorem units_ok : (⟨cBody, none, none, [(cCall, zPos)], none⟩ : Ctx).units < cLine := by decide +kernel
def aBody : Around := { handled := none, depth := frameCount [(cCall, zPos)] + cBody.weight, frames := none, guards := none, units := (⟨cBody, none, none, [(cCall, zPos)], none⟩ : Ctx).units }
theorem in_body : (⟨cBody, none, none, [(cCall, zPos)], none⟩ : Ctx).In aBody := ⟨rfl, Nat.le_refl _, fun l hl => (nomatch hl), fun g hg => (nomatch hg), Nat.le_refl _⟩
theorem annA : hasAnns pA = false ∧ docOf pA = none ∧ hasAnns pB = false ∧ docOf pB = none ∧ hasAnns P.main.body = false ∧ docOf P.main.body = none := by
  refine ⟨?_, ?_, ?_, ?_, ?_, ?_⟩ <;> kernel_rfl
theorem goF_halt {w : World} {s s' : SharedT} {t : Thread} (h : goF (stepT (denote table) P w) 11 (bootAnn w) 6000 s t = some s') (hg : s'.gens = #[]) : ∃ f, Halt P w s.abs t f s'.abs :=
  halt_top 6000 _ _ _ (goF_ok h) (bare_gens hg)

/-- the whole top -/
theorem assemble {w : World} {os : OsState} {r0 s1 s2 s3 : SharedT} (h0 : headT (stepT (denote table) P w) w os = some (r0, tBody (denote table))) (hA : goF (stepT (denote table) P w) 11 (bootAnn w) 6000 r0 (thA (denote table)) = some s1) (g1 : s1.gens = #[])
    (ns2 : s2.abs.heap.isNs mainGlobals = true) (low : sysModules < s1.n) (h2 : dispTT P w s1 kvL kvE = some s2) (h3 : nsTT w s2 mainNs "FORMS" (.ref s1.n) = some s3)
    (hB : ∀ q, ∃ s4, goF (stepT (denote table) P w) 11 (bootAnn w) 6000 s3 (thB (denote table) q) = some s4 ∧ s4.gens = #[]) :
    ∃ q s4, goF (stepT (denote table) P w) 11 (bootAnn w) 6000 s3 (thB (denote table) q) = some s4 ∧ s4.gens = #[] ∧ Halt P w (bS w os) (topStub P) (.ret .none) s4.abs := by
  obtain ⟨a1, a2, a3, a4, a5, a6⟩ := annA
  obtain ⟨fA, HA⟩ := goF_halt hA g1
  have RA := runs_of_halt (c := cBody) (cb := cCall) (pb := zPos) (q := zPos) (X := denote table (.body pA env0)) g1 HA
  have WA := wp_piece a1 a2 RA
  have WF : Sem.wp (model P w) ⟨cBody, none, none, [(cCall, zPos)], none⟩ (exec pF env0) (fun f _ u => f = .next ∧ u = s3.abs) (fun _ _ _ => False) = Sem.wp (model P w) ⟨cBody, none, none, [(cCall, zPos)], none⟩ (exec pF env0) (fun f _ u => f = .next ∧ u = s3.abs) (fun _ _ _ => False) := rfl
  have HF := exec_forms (w := w) (A := aBody) (show aBody.units < cLine from units_ok) h2 h3 ns2 low
  have WB : ∀ q, Sem.wp (model P w) ⟨cBody, none, none, [(cCall, zPos)], none⟩ (execs pB env0) (fun f _ u => f = .next ∧ ∃ q s4, goF (stepT (denote table) P w) 11 (bootAnn w) 6000 s3 (thB (denote table) q) = some s4 ∧ s4.gens = #[] ∧ u = s4.abs) (ELv P w ⟨cBody, none, none, [(cCall, zPos)], none⟩ env0) q s3.abs := fun q => by
    obtain ⟨s4, h4, g4⟩ := hB q
    obtain ⟨fB, H4⟩ := goF_halt h4 g4
    have RB := runs_of_halt (c := cBody) (cb := cCall) (pb := zPos) (q := q) (X := denote table (.body pB env0)) g4 H4
    refine Sem.wp_mono _ _ _ (fun f q1 u z => ⟨z.1, q, s4, h4, g4, z.2⟩) (fun _ _ _ z => z) _ _ (wp_piece a3 a4 RB)
  have WR : ∀ q, Sem.wp (model P w) ⟨cBody, none, none, [(cCall, zPos)], none⟩ (execs (pF :: pB) env0) (fun f _ u => f = .next ∧ ∃ q s4, goF (stepT (denote table) P w) 11 (bootAnn w) 6000 s3 (thB (denote table) q) = some s4 ∧ s4.gens = #[] ∧ u = s4.abs) (ELv P w ⟨cBody, none, none, [(cCall, zPos)], none⟩ env0) q s1.abs := fun q => by
    have e1 : execs (pF :: pB) env0 = exec pF env0 >>= fun f => match f with
      | .next => execs pB env0
      | f => pure f := by
      conv => lhs; unfold execs
      rfl
    rw [e1, Sem.wp_bind']
    refine Sem.wp_mono _ _ _ (fun f q1 u z => ?_) (fun _ _ _ z => z.elim) _ _ (HF _ q in_body)
    obtain ⟨rfl, rfl, _⟩ := z
    exact WB q1
  have WW : Sem.wp (model P w) ⟨cBody, none, none, [(cCall, zPos)], none⟩ (execs P.main.body env0) (fun f _ u => f = .next ∧ ∃ q s4, goF (stepT (denote table) P w) 11 (bootAnn w) 6000 s3 (thB (denote table) q) = some s4 ∧ s4.gens = #[] ∧ u = s4.abs) (ELv P w ⟨cBody, none, none, [(cCall, zPos)], none⟩ env0) zPos r0.abs := by
    rw [body_eq]
    refine wp_execs_app pA zPos r0.abs ?_
    refine Sem.wp_mono _ _ _ (fun f q1 u z => ?_) (fun _ _ _ z => z) _ _ WA
    obtain ⟨rfl, rfl⟩ := z
    exact WR q1
  obtain ⟨u, RU, q, s4, h4, g4, eu⟩ := runs_bodyE a5 a6 WW
  subst eu
  have HH := halt_of_runs (pb := zPos) g4 RU
  exact ⟨q, s4, h4, g4, (head_ok h0).2 _ _ HH⟩
end Hd
end
end
section
set_option Elab.async false
set_option linter.all false
set_option maxRecDepth 100000
set_option maxHeartbeats 4000000
noncomputable section
namespace Hd
open PySem PySem.W PySem.Calls PyProof.Rows HandSHeadRun
section
variable {n0 : Nat} {ann : Option Value} {p : Program} {w : World}
theorem kept_push (s : Shared) (o : Obj) (k : Nat) : Kept n0 ann s { s with heap := s.heap.push o, toks := k } :=
  ⟨Heap.life_push _ _, rfl, fun b u _ _ _ _ h => Heap.get?_push_of_some _ h⟩
theorem kept_upd (s : Shared) {a : Addr} (f : Obj → Obj) (k : Nat) (h : n0 ≤ a ∨ a = mainNs) : Kept n0 ann s { s with heap := s.heap.update a f, toks := k } := by
  refine ⟨by cases s.heap; rfl, rfl, fun b u h1 h2 _ _ q => ?_⟩
  have hb : b ≠ a := by
    rcases h with h | h
    · omega
    · rw [h]
      exact h2
  exact (Heap.get?_update_ne _ _ _ _ hb).trans q
theorem kept_addP {d : Addr} (hd : n0 ≤ d) (s : Shared) (kv : List PySem.Str × List PySem.Str) : Kept n0 ann s (addP p w d s kv) :=
  (kept_push s _ _).trans ((kept_push (pushT s kv.1) _ _).trans (kept_upd (pushT (pushT s kv.1) kv.2) _ _ (.inl hd)))
theorem kept_fold {d : Addr} (hd : n0 ≤ d) : ∀ (l : List (List PySem.Str × List PySem.Str)) (s : Shared), Kept n0 ann s (l.foldl (addP p w d) s)
  | [], s => .refl s
  | kv :: l, s => (kept_addP hd s kv).trans (kept_fold hd l _)
theorem kept_disp {s : Shared} {kvs : List (List PySem.Str × List PySem.Str)} {kv : List PySem.Str × List PySem.Str} (hs : n0 ≤ s.heap.objs.size) : Kept n0 ann s (dispS p w s kvs kv) := by
  have k1 : Kept n0 ann s (pushD s) := kept_push s _ _
  have k2 := k1.trans (kept_fold (p := p) (w := w) hs kvs (pushD s))
  have sz : ∀ (l : List (List PySem.Str × List PySem.Str)) (d : Addr) (u : Shared), u.heap.objs.size ≤ (l.foldl (addP p w d) u).heap.objs.size := by
    intro l
    induction l with
    | nil => exact fun d u => Nat.le_refl _
    | cons x l ih =>
      intro d u
      refine Nat.le_trans ?_ (ih d _)
      show u.heap.objs.size ≤ ((pushT (pushT u x.1) x.2).heap.update d _).objs.size
      have e : ((pushT (pushT u x.1) x.2).heap.update d (putE x.1 u.heap.objs.size (.ref (u.heap.objs.size + 1)) p w)).objs.size = (pushT (pushT u x.1) x.2).heap.objs.size := by
        simp [Heap.update]
      rw [e, push_size, push_size]
      omega
  have hz : n0 ≤ (kvs.foldl (addP p w s.heap.objs.size) (pushD s)).heap.objs.size := by
    refine Nat.le_trans hs (Nat.le_trans ?_ (sz kvs _ _))
    show s.heap.objs.size ≤ (s.heap.push _).objs.size
    simp [Heap.push]
  have k3 := k2.trans ((kept_push (kvs.foldl (addP p w s.heap.objs.size) (pushD s)) { cls := .type "dict", data := .dict #[] } _ : Kept n0 ann _ (pushD _)).trans (kept_addP (p := p) (w := w) hz (pushD (kvs.foldl (addP p w s.heap.objs.size) (pushD s))) kv))
  exact k3.trans (kept_upd _ _ _ (.inl hs))
end

theorem opens_plain : opening P = plainProg P.main.scope.names := by kernel_rfl
theorem fence_plain (s : Shared) : fenceModules? P s = some s := by kernel_rfl
theorem boot_main (w : World) : (boot_heap w.params).isNs mainGlobals = true := by kernel_rfl
abbrev lookAll (H : Hook) (ob : SharedT → H.α) (w : World) (r : Bool × SharedT) := (r.1, looksF P (boot_heap w.params) r.2.abs, seenQ qv others (importedModules P.main.body) (fun s => xlAt qv [] s && recOk R.toRowW.records s) r.2.abs, ob r.2)

theorem behind_any {H : Hook} {ob : SharedT → H.α} (ho : ∀ s, ob s = H.obs s.abs) (hch : chainsOk qv = true)
    (hrun : ∀ w os q, (chain (denQ tabQ) w os q).map (lookAll H ob w) = some (true, true, openGood qv others, H.val w)) (w : World) : Behind P qv others (XL qv []) H.says w := by
  obtain ⟨s0, hs0, hf0⟩ := Option.map_eq_some_iff.mp (boot_open (p := P) (N := 600) opens_plain rfl fence_plain w)
  rw [← table_eq_tree] at hs0
  obtain ⟨sb, hb1, hb2⟩ := Option.bind_eq_some_iff.mp hs0
  have AI := AfterImport.of_importEnds hb1
  refine ⟨⟨sb, AI⟩, fun s' hs' => ?_⟩
  have es : s' = sb := AfterImport.unique hs' AI
  subst es
  have z0 : s0.asleep := Shared.asleep_of_life (fence_lifeW hb2) AI.life
  obtain ⟨hp, gs, dr, tk, os⟩ := s0
  obtain ⟨rfl, rfl, rfl, rfl⟩ : hp = boot_heap w.params ∧ gs = Array.mk [] ∧ dr = boot_drawn ∧ tk = boot_toks := by simpa using hf0
  have ed : denQ tabQ = denote table := by rw [← denQ_eq, ← tabQ_eq, ← table_eq_tree]
  have hr : ∀ q, (chain (denote table) w os q).map (lookAll H ob w) = some (true, true, openGood qv others, H.val w) := fun q => by
    have z := hrun w os q
    rw [ed] at z
    exact z
  have ht := head_thread w os
  rw [ed, ← stepQ_eq] at ht
  obtain ⟨r, hh, et⟩ := Option.map_eq_some_iff.mp ht
  obtain ⟨r0, t0⟩ := r
  dsimp only at et
  subst et
  -- the chain's parts
  obtain ⟨x, hx, hlx⟩ := Option.map_eq_some_iff.mp (hr zPos)
  unfold chain at hx
  rw [← stepQ_eq, hh] at hx
  obtain ⟨s1, hA, hx⟩ := Option.bind_eq_some_iff.mp (show (goF (stepT (denote table) P w) 11 (bootAnn w) 6000 r0 (thA (denote table))).bind _ = some x from hx)
  obtain ⟨s2, h2, hx⟩ := Option.bind_eq_some_iff.mp hx
  obtain ⟨s3, h3, hx⟩ := Option.bind_eq_some_iff.mp hx
  obtain ⟨s4z, h4z, hx⟩ := Option.bind_eq_some_iff.mp hx
  have ex : x = (s1.gens.size == 0 && (s2.abs.heap.isNs mainGlobals && Nat.ble 11 s1.n), s4z) := (Option.some.inj hx).symm
  subst ex
  have c1 : (s1.gens.size == 0 && (s2.abs.heap.isNs mainGlobals && Nat.ble 11 s1.n)) = true := congrArg (fun z => z.1) hlx
  obtain ⟨g1, c2⟩ := Bool.and_eq_true_iff.mp c1
  obtain ⟨ns2, low⟩ := Bool.and_eq_true_iff.mp c2
  have low1 : 11 ≤ s1.n := Nat.le_of_ble_eq_true low
  have low' : sysModules < s1.n := Nat.lt_of_lt_of_le (by decide) low1
  have g1' : s1.gens = #[] := Array.eq_empty_of_size_eq_zero (beq_iff_eq.mp g1)
  -- any position
  have hq : ∀ q, ∃ s4, goF (stepT (denote table) P w) 11 (bootAnn w) 6000 s3 (thB (denote table) q) = some s4 ∧ lookAll H ob w (true, s4) = (true, true, openGood qv others, H.val w) := fun q => by
    obtain ⟨y, hy, hly⟩ := Option.map_eq_some_iff.mp (hr q)
    unfold chain at hy
    rw [← stepQ_eq, hh] at hy
    obtain ⟨s1b, hAb, hy⟩ := Option.bind_eq_some_iff.mp (show (goF (stepT (denote table) P w) 11 (bootAnn w) 6000 r0 (thA (denote table))).bind _ = some y from hy)
    rw [hA] at hAb
    cases hAb
    obtain ⟨s2b, h2b, hy⟩ := Option.bind_eq_some_iff.mp hy
    rw [h2] at h2b
    cases h2b
    obtain ⟨s3b, h3b, hy⟩ := Option.bind_eq_some_iff.mp hy
    rw [h3] at h3b
    cases h3b
    obtain ⟨s4, h4, hy⟩ := Option.bind_eq_some_iff.mp hy
    rw [frS_eq] at h4
    have ey := (Option.some.inj hy).symm
    subst ey
    refine ⟨s4, h4, ?_⟩
    rw [c1] at hly
    exact hly
  have hgens : ∀ s4 : SharedT, lookAll H ob w (true, s4) = (true, true, openGood qv others, H.val w) → s4.gens = #[] := fun s4 hl => by
    have e : seenQ qv others (importedModules P.main.body) (fun s => xlAt qv [] s && recOk R.toRowW.records s) s4.abs = openGood qv others := congrArg (fun z => z.2.2.1) hl
    rw [← seenQ_eq] at e
    obtain ⟨_, g0, _⟩ := ground_of_open (w := w) (XP := XL qv []) (fun s z => xl_of s (Bool.and_eq_true_iff.mp z).1) hch e
    exact Array.eq_empty_of_size_eq_zero (beq_iff_eq.mp g0)
  obtain ⟨q, s4, h4, g4, HH⟩ := assemble hh hA g1' ns2 low' h2 h3 fun q => by
    obtain ⟨s4, h4, hl⟩ := hq q
    exact ⟨s4, h4, hgens s4 hl⟩
  obtain ⟨s4b, h4b, hl4⟩ := hq q
  rw [h4] at h4b
  cases h4b
  have lk : looksF P (boot_heap w.params) s4.abs = true := congrArg (fun z => z.2.1) hl4
  have sk : seenQ qv others (importedModules P.main.body) (fun s => xlAt qv [] s && recOk R.toRowW.records s) s4.abs = openGood qv others := congrArg (fun z => z.2.2.1) hl4
  have ok4 : ob s4 = H.val w := congrArg (fun z => z.2.2.2) hl4
  rw [← seenQ_eq] at sk
  obtain ⟨G, g0, i1, i2, i3, i4, i5⟩ := ground_of_open (w := w) (XP := XL qv []) (fun s z => xl_of s (Bool.and_eq_true_iff.mp z).1) hch sk
  -- what is kept
  have kh := (head_ok hh).1
  have zr : r0.abs.asleep := Shared.asleep_of_life kh.life z0
  have kA := kept_top zr (goF_ok hA)
  have z1 : s1.abs.asleep := Shared.asleep_of_life kA.life zr
  have n1 : 11 ≤ s1.abs.heap.objs.size := by
    rw [abs_size]
    exact low1
  have kD : Kept 11 (bootAnn w) s1.abs s2.abs := by
    rw [dispTT_abs h2]
    exact kept_disp n1
  have kN : Kept 11 (bootAnn w) s2.abs s3.abs := by
    rw [nsTT_abs h3]
    exact kept_upd _ _ _ (.inr rfl)
  have kAN := kA.trans (kD.trans kN)
  have z3 : s3.abs.asleep := Shared.asleep_of_life kAN.life zr
  have k := kh.trans (kAN.trans (kept_top z3 (goF_ok h4)))
  obtain ⟨n, v, hn, hv⟩ := halt_sched z0 HH
  have lk' : (staticsOk (importedModules P.main.body) (boot_heap w.params) s4.abs.heap && namesBound P s4.abs.heap && gensDone s4.abs && laidKept (boot_heap w.params) s4.abs.heap) = true := lk
  obtain ⟨lk', l4⟩ := Bool.and_eq_true_iff.mp lk'
  obtain ⟨lk', l3⟩ := Bool.and_eq_true_iff.mp lk'
  obtain ⟨l1, l2⟩ := Bool.and_eq_true_iff.mp lk'
  have zf : s4.abs.asleep := Shared.asleep_of_life k.life z0
  refine ⟨_, hb2, rfl, s4.abs, ⟨⟨n, v, hn, hv⟩, k.life, Shared.rest_eq k.os, fun b o hb hno => ?_, i2, statics_of_ok l1, i3, i4, i5, gens_of_done l3, names_of_bound l2, laid_of_kept l4⟩, zf, g4, i1, G, ?_⟩
  · refine k.fr b o ?_ (fun c => hno (.inl c)) (fun c => hno (.inr (.inl c))) (fun c => hno (.inr (.inr ((Pin.globalOf_eq (boot_main w) _).trans c)))) hb
    have z := Heap.lt_size hb
    rw [boot_size] at z
    exact z
  · exact H.of w s4.abs ((ho s4).symm.trans ok4)
end Hd
end
end
section
set_option Elab.async false
set_option linter.all false
set_option autoImplicit false
set_option maxRecDepth 100000
/-! Z1: list(zip(a, b)): next while the pair given out before is still there; the loop. -/
namespace Sv
open PySem PySem.Spec PyProof.Rows
section
variable {prog : Program} {w : World} {A : Around} {E : Value → Shared → Prop} {s : Shared} {z TI TO i1 i2 T : Addr} {fp1 fp2 : List Addr} {n1 n2 i : Nat} {P1 P2 : Nat → Value → Prop} {St1 St2 : Nat → Heap → Prop} {a1 a2 : Value} {f : Bool} {oT : Obj}
theorem zipH_next_item {Q : Value → Shared → Prop} (S : ZipSep2 z TI TO i1 i2 fp1 fp2) (D1 : Draws prog w A i1 fp1 n1 P1 St1) (D2 : Draws prog w A i2 fp2 n2 P2 St2)
    (hz : IsZipHeld s.heap z TI TO T f) (hT : s.heap.get? T = some oT) (hTI : IsTupOf2 s.heap TI (.ref i1) (.ref i2)) (st1 : St1 i s.heap) (st2 : St2 i s.heap) (hlt1 : i < n1) (hlt2 : i < n2)
    (hQ : ∀ x1 x2 h' tk, P1 i x1 → P2 i x2 → IsZipHeld h' z TI TO T true → St1 (i + 1) h' → St2 (i + 1) h' → IsTupOf2 h' s.heap.objs.size x1 x2 → h'.objs.size = s.heap.objs.size + 1 →
      (∀ c o, c ≠ z → c ≠ i1 → c ≠ i2 → s.heap.get? c = some o → h'.get? c = some o) → Q (.ref s.heap.objs.size) { s with heap := h', toks := tk }) :
    wpAny (model prog w) A (Builtin.«zip.__next__» ⟨[.ref z], []⟩) (fun fin s' => ∃ v, fin = .done (.ret v) ∧ Q v s') E s := by
  obtain ⟨hp, g, d, tk0, os⟩ := s
  show wpAny _ _ (field (.ref z) 2 >>= _) _ _ _
  refine wpAny_bind (wpAny_field hz rfl (x := .bool false) rfl ?_)
  show wpAny _ _ (field (.ref z) 3 >>= _) _ _ _
  refine wpAny_bind (wpAny_field hz rfl (x := .ref TI) rfl ?_)
  refine wpAny_bind (wpAny_seqItems hTI rfl ?_)
  show wpAny _ _ (Builtin.SmallTypes.ownedTupleIsFree (.ref z) >>= _) _ _ _
  refine wpAny_bind (wpAny_tupleHeld_zip hz hT fun h₁ hz₁ hs₁ => ?_)
  replace hs₁ : Heap.SameBut z hp h₁ := hs₁
  simp only [Bool.false_eq_true, if_false]
  refine wpAny_bind ?_
  rw [← Array.forIn_toList]
  simp only [List.forIn_cons, List.forIn_nil]
  refine wpAny_bind (wpAny_bind (wpAny_holding ?_))
  show wpAny _ _ (Builtin.SmallTypes.nextOf (.ref i1) >>= _) _ _ ⟨h₁, g, d, tk0, os⟩
  refine wpAny_bind (D1.item i _ _ _ hlt1 (D1.over st1 hs₁ S.zf1) fun x1 p1 tk1 hx1 sn1 hp1 => wpAny_pure ?_)
  replace hp1 : Heap.SameBut i1 h₁ p1 := hp1
  refine wpAny_pure ?_
  refine wpAny_bind (wpAny_bind (wpAny_holding ?_))
  show wpAny _ _ (Builtin.SmallTypes.nextOf (.ref i2) >>= _) _ _ ⟨p1, g, d, tk1, os⟩
  refine wpAny_bind (D2.item i _ _ _ hlt2 (D2.over (D2.over st2 hs₁ S.zf2) hp1 S.sep1_2) fun x2 p2 tk2 hx2 sn2 hp2 => wpAny_pure ?_)
  replace hp2 : Heap.SameBut i2 p1 p2 := hp2
  refine wpAny_pure (wpAny_pure ?_)
  show wpAny _ _ (newTuple [x1, x2] >>= _) _ _ _
  refine wpAny_bind (wpAny_newTuple ?_)
  have hsz : p2.objs.size = hp.objs.size := by rw [hp2.1, hp1.1, hs₁.1]
  have hz₃ : IsZipHeld p2 z TI TO T true := hp2.extBut _ _ S.zi2 (hp1.extBut _ _ S.zi1 hz₁)
  have hk : ∀ c o, c ≠ z → c ≠ i1 → c ≠ i2 → hp.get? c = some o → p2.get? c = some o := fun c o c1 c2 c3 e => hp2.extBut _ _ c3 (hp1.extBut _ _ c2 (hs₁.extBut _ _ c1 e))
  have hj1 : St1 (i + 1) p2 := D1.over sn1 hp2 S.sep2_1
  refine wpAny_pure ⟨_, rfl, ?_⟩
  show Q (.ref p2.objs.size) ⟨p2.push { cls := .type "tuple", data := .seq #[x1, x2] }, g, d, tk2, os⟩
  have hpr : IsTupOf2 (p2.push { cls := .type "tuple", data := .seq #[x1, x2] }) p2.objs.size x1 x2 := Heap.get?_push_size _ rfl
  have hz4 : (p2.push { cls := .type "tuple", data := .seq #[x1, x2] }).objs.size = p2.objs.size + 1 := Heap.size_push ..
  rw [hsz] at hpr hz4 ⊢
  exact hQ x1 x2 _ tk2 hx1 hx2 (Heap.get?_push_of_some _ hz₃) (D1.frame _ _ _ hj1 fun b _ o e => Heap.get?_push_of_some _ e) (D2.frame _ _ _ sn2 fun b _ o e => Heap.get?_push_of_some _ e) hpr hz4 fun c o c1 c2 c3 e => Heap.get?_push_of_some _ (hk c o c1 c2 c3 e)
theorem zipH_next_end {Q : Fin → Shared → Prop} (S : ZipSep2 z TI TO i1 i2 fp1 fp2) (D1 : Draws prog w A i1 fp1 n1 P1 St1) (D2 : Draws prog w A i2 fp2 n2 P2 St2)
    (hz : IsZipHeld s.heap z TI TO T f) (hT : s.heap.get? T = some oT) (hTI : IsTupOf2 s.heap TI (.ref i1) (.ref i2)) (st1 : St1 i s.heap) (st2 : St2 i s.heap) (hle1 : i ≤ n1) (hle2 : i ≤ n2) (hend : i = n1 ∨ i = n2)
    (hE : ∀ h' tk e, (∀ c o, c ≠ z → c ≠ i1 → c ≠ i2 → s.heap.get? c = some o → h'.get? c = some o) → (∃ o, h'.get? e = some o ∧ o.cls = .type "StopIteration") → E (.ref e) { s with heap := h', toks := tk }) :
    wpAny (model prog w) A (Builtin.«zip.__next__» ⟨[.ref z], []⟩) Q E s := by
  obtain ⟨hp, g, d, tk0, os⟩ := s
  show wpAny _ _ (field (.ref z) 2 >>= _) _ _ _
  refine wpAny_bind (wpAny_field hz rfl (x := .bool false) rfl ?_)
  show wpAny _ _ (field (.ref z) 3 >>= _) _ _ _
  refine wpAny_bind (wpAny_field hz rfl (x := .ref TI) rfl ?_)
  refine wpAny_bind (wpAny_seqItems hTI rfl ?_)
  show wpAny _ _ (Builtin.SmallTypes.ownedTupleIsFree (.ref z) >>= _) _ _ _
  refine wpAny_bind (wpAny_tupleHeld_zip hz hT fun h₁ hz₁ hs₁ => ?_)
  replace hs₁ : Heap.SameBut z hp h₁ := hs₁
  simp only [Bool.false_eq_true, if_false]
  refine wpAny_bind ?_
  rw [← Array.forIn_toList]
  simp only [List.forIn_cons, List.forIn_nil]
  refine wpAny_bind (wpAny_bind (wpAny_holding ?_))
  show wpAny _ _ (Builtin.SmallTypes.nextOf (.ref i1) >>= _) _ _ ⟨h₁, g, d, tk0, os⟩
  by_cases hlt1 : i < n1
  · refine wpAny_bind (D1.item i _ _ _ hlt1 (D1.over st1 hs₁ S.zf1) fun x1 p1 tk1 hx1 sn1 hp1 => wpAny_pure ?_)
    replace hp1 : Heap.SameBut i1 h₁ p1 := hp1
    refine wpAny_pure ?_
    have hi2 : i = n2 := by omega
    refine wpAny_bind (wpAny_bind (wpAny_holding ?_))
    show wpAny _ _ (Builtin.SmallTypes.nextOf (.ref i2) >>= _) _ _ ⟨p1, g, d, tk1, os⟩
    refine wpAny_bind (D2.done ⟨p1, g, d, tk1, os⟩ _ _ (by rw [← hi2]; exact D2.over (D2.over st2 hs₁ S.zf2) hp1 S.sep1_2) fun q e hq he => ?_)
    exact hE q tk1 e (fun c o cz c1 c2 x => hq _ _ c2 (hp1.extBut _ _ c1 (hs₁.extBut _ _ cz x))) he
  · have hi1 : i = n1 := by omega
    refine wpAny_bind (D1.done ⟨h₁, g, d, tk0, os⟩ _ _ (by rw [← hi1]; exact D1.over st1 hs₁ S.zf1) fun q e hq he => ?_)
    exact hE q tk0 e (fun c o cz c1 c2 x => hq _ _ c1 (hs₁.extBut _ _ cz x)) he
theorem pyNext_zipH_item {Q : Option Value → Shared → Prop} (S : ZipSep2 z TI TO i1 i2 fp1 fp2) (D1 : Draws prog w A.in1 i1 fp1 n1 P1 St1) (D2 : Draws prog w A.in1 i2 fp2 n2 P2 St2)
    (hz : IsZipHeld s.heap z TI TO T f) (hT : s.heap.get? T = some oT) (hTI : IsTupOf2 s.heap TI (.ref i1) (.ref i2)) (st1 : St1 i s.heap) (st2 : St2 i s.heap) (hlt1 : i < n1) (hlt2 : i < n2)
    (hQ : ∀ x1 x2 h' tk, P1 i x1 → P2 i x2 → IsZipHeld h' z TI TO T true → St1 (i + 1) h' → St2 (i + 1) h' → IsTupOf2 h' s.heap.objs.size x1 x2 → h'.objs.size = s.heap.objs.size + 1 →
      (∀ c o, c ≠ z → c ≠ i1 → c ≠ i2 → s.heap.get? c = some o → h'.get? c = some o) → Q (some (.ref s.heap.objs.size)) { s with heap := h', toks := tk }) :
    wpAny (model prog w) A (pyNext (.ref z)) Q E s := by
  have hTy : s.TypeIs (.ref z) "zip" := ⟨_, hz, rfl⟩
  unfold pyNext
  exact wpAny_bind (wpAny_attempt (wpAny_callSpecial?_slot (name := Str.ofString "__next__") hTy PySem.F.slot_zip_next
    (wpAny_call_entry PySem.F.slot_zip_next hTy PySem.F.entry_zip_next
      (zipH_next_item S D1 D2 hz hT hTI st1 st2 hlt1 hlt2 fun x1 x2 h' tk y1 y2 b1 d1 d2 b5 b6 b7 => wpAny_pure (hQ x1 x2 h' tk y1 y2 b1 d1 d2 b5 b6 b7)) (PySem.F.args_zip_next_1 _))))
theorem pyNext_zipH_end {Q : Option Value → Shared → Prop} (S : ZipSep2 z TI TO i1 i2 fp1 fp2) (D1 : Draws prog w A.in1 i1 fp1 n1 P1 St1) (D2 : Draws prog w A.in1 i2 fp2 n2 P2 St2)
    (hz : IsZipHeld s.heap z TI TO T f) (hT : s.heap.get? T = some oT) (hTI : IsTupOf2 s.heap TI (.ref i1) (.ref i2)) (st1 : St1 i s.heap) (st2 : St2 i s.heap) (hle1 : i ≤ n1) (hle2 : i ≤ n2) (hend : i = n1 ∨ i = n2)
    (hQ : ∀ h' tk, (∀ c o, c ≠ z → c ≠ i1 → c ≠ i2 → s.heap.get? c = some o → h'.get? c = some o) → Q none { s with heap := h', toks := tk }) : wpAny (model prog w) A (pyNext (.ref z)) Q E s := by
  have hTy : s.TypeIs (.ref z) "zip" := ⟨_, hz, rfl⟩
  unfold pyNext
  refine wpAny_bind (wpAny_attempt (wpAny_callSpecial?_slot (name := Str.ofString "__next__") hTy PySem.F.slot_zip_next
    (wpAny_call_entry PySem.F.slot_zip_next hTy PySem.F.entry_zip_next (zipH_next_end S D1 D2 hz hT hTI st1 st2 hle1 hle2 hend fun h' tk e hk he => ?_) (PySem.F.args_zip_next_1 _))))
  obtain ⟨o, ho, hc⟩ := he
  refine wpAny_bind (wpAny_isInstance (T := "StopIteration") (b := true) ⟨o, ho, hc⟩ isSubtype_stop ?_)
  exact wpAny_pure (hQ _ _ hk)
end
end Sv
end
section
set_option Elab.async false
set_option linter.all false
set_option autoImplicit false
set_option maxRecDepth 100000
/-! Z2: list(zip(a, b)): the loop, list's making. -/
namespace Sv
open PySem PySem.Spec PyProof.Rows
/-- a zip on its way: no pair out as yet, or one that is still there -/
def ZS (z TI TO i1 i2 S : Addr) (St1 St2 : Nat → Heap → Prop) (i : Nat) (h : Heap) : Prop :=
  IsTupOf2 h TI (.ref i1) (.ref i2) ∧ St1 i h ∧ St2 i h ∧ ((IsZip h z TI TO .none ∧ ∃ a b, IsTupOf2 h TO a b) ∨ ∃ T f oT, IsZipHeld h z TI TO T f ∧ h.get? T = some oT ∧ T ≠ S ∧ T ≠ z ∧ T ≠ i1 ∧ T ≠ i2)
section
variable {prog : Program} {w : World} {A : Around} {E : Value → Shared → Prop} {s : Shared} {z TI TO i1 i2 S : Addr} {fp1 fp2 : List Addr} {n1 n2 i : Nat} {P1 P2 : Nat → Value → Prop} {St1 St2 : Nat → Heap → Prop}
theorem ZS.keep {h h' : Heap} (D1 : Draws prog w A i1 fp1 n1 P1 St1) (D2 : Draws prog w A i2 fp2 n2 P2 St2) (x : ZS z TI TO i1 i2 S St1 St2 i h) (hk : ∀ b o, b ≠ S → h.get? b = some o → h'.get? b = some o)
    (hz : z ≠ S) (hTI : TI ≠ S) (hTO : TO ≠ S) (f1 : S ∉ fp1) (f2 : S ∉ fp2) : ZS z TI TO i1 i2 S St1 St2 i h' := by
  obtain ⟨x1, x2, x3, x4⟩ := x
  refine ⟨hk _ _ hTI x1, D1.frame _ _ _ x2 fun b hb o e => hk b o (fun q => f1 (q ▸ hb)) e, D2.frame _ _ _ x3 fun b hb o e => hk b o (fun q => f2 (q ▸ hb)) e, ?_⟩
  rcases x4 with ⟨y1, a, b, y2⟩ | ⟨T, f, oT, y1, y2, y3, y4⟩
  · exact .inl ⟨hk _ _ hz y1, a, b, hk _ _ hTO y2⟩
  · exact .inr ⟨T, f, oT, hk _ _ hz y1, hk _ _ y3 y2, y3, y4⟩
theorem zs_item {Q : Option Value → Shared → Prop} (ZP : ZipSep2 z TI TO i1 i2 fp1 fp2) (D1 : Draws prog w A.in1 i1 fp1 n1 P1 St1) (D2 : Draws prog w A.in1 i2 fp2 n2 P2 St2) (x : ZS z TI TO i1 i2 S St1 St2 i s.heap) (hlt1 : i < n1) (hlt2 : i < n2) (hS : S < s.heap.objs.size)
    (hQ : ∀ x1 x2 h' tk, P1 i x1 → P2 i x2 → ZS z TI TO i1 i2 S St1 St2 (i + 1) h' → IsTupOf2 h' s.heap.objs.size x1 x2 →
      (∀ c o, c ≠ z → c ≠ TO → c ≠ i1 → c ≠ i2 → s.heap.get? c = some o → h'.get? c = some o) → Q (some (.ref s.heap.objs.size)) { s with heap := h', toks := tk }) :
    wpAny (model prog w) A (pyNext (.ref z)) Q E s := by
  obtain ⟨x1, x2, x3, x4⟩ := x
  obtain ⟨o1, e1⟩ := D1.live _ _ x2
  obtain ⟨o2, e2⟩ := D2.live _ _ x3
  have l1 := Heap.lt_size e1
  have l2 := Heap.lt_size e2
  rcases x4 with ⟨y1, a, b, y2⟩ | ⟨T, f, oT, y1, y2, y3, y4, y5, y6⟩
  · have lz := Heap.lt_size y1
    refine wpAny_pyNext_zipD2_item ZP D1 D2 y1 x1 y2 x2 x3 hlt1 hlt2 fun u v h' tk p1 p2 z1 t1 s1 s2 pr hz hk => ?_
    exact hQ u v h' tk p1 p2 ⟨hk _ _ ZP.TIz ZP.TITO ZP.TIi1 ZP.TIi2 x1, s1, s2, .inr ⟨_, false, _, z1, pr, Nat.ne_of_gt hS, Nat.ne_of_gt lz, Nat.ne_of_gt l1, Nat.ne_of_gt l2⟩⟩ pr hk
  · refine pyNext_zipH_item ZP D1 D2 y1 y2 x1 x2 x3 hlt1 hlt2 fun u v h' tk p1 p2 z1 s1 s2 pr hz hk => ?_
    exact hQ u v h' tk p1 p2 ⟨hk _ _ ZP.TIz ZP.TIi1 ZP.TIi2 x1, s1, s2, .inr ⟨T, true, oT, z1, hk _ _ y4 y5 y6 y2, y3, y4, y5, y6⟩⟩ pr fun c o h1 _ h3 h4 e => hk c o h1 h3 h4 e
theorem zs_done {Q : Option Value → Shared → Prop} (hh : True) (ZP : ZipSep2 z TI TO i1 i2 fp1 fp2) (D1 : Draws prog w A.in1 i1 fp1 n1 P1 St1) (D2 : Draws prog w A.in1 i2 fp2 n2 P2 St2) (x : ZS z TI TO i1 i2 S St1 St2 i s.heap) (hle1 : i ≤ n1) (hle2 : i ≤ n2) (hend : i = n1 ∨ i = n2)
    (hQ : ∀ h' tk, (∀ c o, c ≠ z → c ≠ TO → c ≠ i1 → c ≠ i2 → s.heap.get? c = some o → h'.get? c = some o) → Q none { s with heap := h', toks := tk }) :
    wpAny (model prog w) A (pyNext (.ref z)) Q E s := by
  obtain ⟨x1, x2, x3, x4⟩ := x
  rcases x4 with ⟨y1, a, b, y2⟩ | ⟨T, f, oT, y1, y2, y3, y4, y5, y6⟩
  · exact wpAny_pyNext_zipD2_end ZP D1 D2 y1 x1 y2 x2 x3 hle1 hle2 hend hQ
  · exact pyNext_zipH_end ZP D1 D2 y1 y2 x1 x2 x3 hle1 hle2 hend fun h' tk hk => hQ h' tk fun c o h1 _ h3 h4 e => hk c o h1 h3 h4 e
end
section
variable {prog : Program} {w : World} {K : Type} [DecidableEq K] {knd : KeyKind prog w K} {A : Around} {s : Shared} {R : Result → Shared → Prop} {kvs : List (K × Value)}
variable {z TI TO i1 i2 S : Addr} {fp1 fp2 : List Addr} {n1 n2 : Nat} {P1 P2 : Nat → Value → Prop} {St1 St2 : Nat → Heap → Prop}
theorem zs_loop (ZP : ZipSep2 z TI TO i1 i2 fp1 fp2) (D1 : Draws prog w A.in1.in1 i1 fp1 n1 P1 St1) (D2 : Draws prog w A.in1.in1 i2 fp2 n2 P2 St2) (hzS : z ≠ S) (hTI : TI ≠ S) (hTO : TO ≠ S) (f1 : S ∉ fp1) (f2 : S ∉ fp2)
    (hzl : z < S) (hTOl : TO < S) (h1l : i1 < S) (h2l : i2 < S)
    (hn1 : n1 = kvs.length) (hn2 : n2 = kvs.length) (hP : ∀ j x1 x2, P1 j x1 → P2 j x2 → ∃ k, kvs[j]? = some (k, x2) ∧ knd.is k x1 = true) (hn : kvs.length ≤ sizeLine) (res : Value) {h₁ : Heap}
    (hR : ∀ h' tk acc c as, (∀ b o, b ≠ S → b ≠ z → b ≠ TO → b ≠ i1 → b ≠ i2 → h₁.get? b = some o → h'.get? b = some o) → h'.get? S = some { cls := .type "list", dict := none, data := .seq acc c, slots := #[] } → as.length = kvs.length → PySem.W.KdxG knd kvs S h' as →
      acc.toList = as.map Value.ref → R (.ok (.ret res)) { s with heap := h', toks := tk }) :
    ∀ (k i : Nat) (h : Heap) (tk c : Nat) (acc : Array Value) (as : List Addr), kvs.length - i = k → i ≤ kvs.length → ZS z TI TO i1 i2 S St1 St2 i h → (∀ b o, b ≠ S → b ≠ z → b ≠ TO → b ≠ i1 → b ≠ i2 → h₁.get? b = some o → h.get? b = some o) →
      h.get? S = some { cls := .type "list", dict := none, data := .seq acc c, slots := #[] } → acc.toList = as.map Value.ref → as.length = i → PySem.W.KdxG knd kvs S h as →
      codeAny (model prog w) A (.builtin "list.extend.loop" ⟨[.ref S, .ref z, res], []⟩) R { s with heap := h, toks := tk } := by
  have n1S : i1 ≠ S := Nat.ne_of_lt h1l
  have n2S : i2 ≠ S := Nat.ne_of_lt h2l
  intro k
  induction k with
  | zero =>
    intro i h tk c acc as hk hi hst hkeep hS hacc hal hG
    have hin : i = kvs.length := by omega
    refine codeAny_builtin PySem.F.entry_extend_loop ?_
    rw [Around.under_plainId PySem.F.plain_extend_loop _]
    show wpAny _ A.in1 (pyNext (.ref z) >>= _) _ _ _
    refine wpAny_bind (zs_done (s := { s with heap := h, toks := tk }) (A := A.in1) trivial ZP D1 D2 hst (by omega) (by omega) (.inl (by omega)) fun h' tk' he => ?_)
    refine wpAny_pure (hR h' tk' acc c as (fun b o h1 h2 h3 h4 h5 e => he b o h2 h3 h4 h5 (hkeep b o h1 h2 h3 h4 h5 e)) (he S _ hzS.symm hTO.symm n1S.symm n2S.symm hS) (by omega) ⟨hG.rise, hG.above, fun j a hj => ?_⟩ hacc)
    obtain ⟨key, kk, x, e1, e2, e3⟩ := hG.pairs j a hj
    have ha := hG.above a (List.mem_of_getElem? hj)
    exact ⟨key, kk, x, e1, e2, he a _ (Nat.ne_of_gt (Nat.lt_trans hzl ha)) (Nat.ne_of_gt (Nat.lt_trans hTOl ha)) (Nat.ne_of_gt (Nat.lt_trans h1l ha)) (Nat.ne_of_gt (Nat.lt_trans h2l ha)) e3⟩
  | succ k ih =>
    intro i h tk c acc as hk hi hst hkeep hS hacc hal hG
    have hlt : i < kvs.length := by omega
    have hsz : acc.size = i := by rw [← Array.length_toList, hacc, List.length_map, hal]
    refine codeAny_builtin PySem.F.entry_extend_loop ?_
    rw [Around.under_plainId PySem.F.plain_extend_loop _]
    show wpAny _ A.in1 (pyNext (.ref z) >>= _) _ _ _
    refine wpAny_bind (zs_item (s := { s with heap := h, toks := tk }) (S := S) ZP D1 D2 hst (by omega) (by omega) (Heap.lt_size hS) fun x1 x2 h' tk' p1 p2 hst' ht hkp => ?_)
    dsimp only at ht hkp ⊢
    obtain ⟨kk, hx, hkey⟩ := hP i x1 x2 p1 p2
    have hS' := hkp S _ hzS.symm hTO.symm n1S.symm n2S.symm hS
    have up : ∀ b o, b ≠ S → h'.get? b = some o → (h'.update S (Obj.mapSeq (·.push (Value.ref h.objs.size)))).get? b = some o := fun b o hb e => (Heap.get?_update_other _ _ (Ne.symm hb)).trans e
    have hSl : S < h.objs.size := Heap.lt_size hS
    show wpAny _ A.in1 (updateSeq S (·.push (Value.ref h.objs.size)) >>= _) _ _ _
    refine wpAny_bind ?_
    refine wpAny_updateSeq hS' rfl (wpAny_pure ⟨plainId_quiet PySem.F.plain_extend_loop _, ih (i + 1) _ tk' _ (acc.push (Value.ref h.objs.size)) (as ++ [h.objs.size]) (by omega) hlt (hst'.keep D1 D2 up hzS hTI hTO f1 f2)
      (fun b o h1 h2 h3 h4 h5 e => up b o h1 (hkp b o h2 h3 h4 h5 (hkeep b o h1 h2 h3 h4 h5 e))) (Heap.get?_update_self _ hS' rfl) (by rw [Array.toList_push, hacc, List.map_append]; rfl) (by rw [List.length_append, hal]; rfl) ⟨?_, ?_, ?_⟩⟩) (by rw [hsz]; omega) (by show (acc.push (Value.ref h.objs.size)).size ≤ sizeLine + 1; rw [Array.size_push, hsz]; omega)
    · refine List.pairwise_append.mpr ⟨hG.rise, List.pairwise_singleton _ _, fun a ha b hb => ?_⟩
      rw [List.mem_singleton.mp hb]
      exact hG.there ha
    · intro a ha
      rcases List.mem_append.mp ha with ha | ha
      · exact hG.above a ha
      · rw [List.mem_singleton.mp ha]; exact hSl
    · intro j b hj
      rcases Nat.lt_trichotomy j as.length with h1 | h1 | h1
      · rw [List.getElem?_append_left h1] at hj
        obtain ⟨key', k', x', e1, e2, e3⟩ := hG.pairs j b hj
        have hb := hG.above b (List.mem_of_getElem? hj)
        exact ⟨key', k', x', e1, e2, up b _ (Nat.ne_of_gt hb) (hkp b _ (Nat.ne_of_gt (Nat.lt_trans hzl hb)) (Nat.ne_of_gt (Nat.lt_trans hTOl hb)) (Nat.ne_of_gt (Nat.lt_trans h1l hb)) (Nat.ne_of_gt (Nat.lt_trans h2l hb)) e3)⟩
      · subst h1
        have hb : h.objs.size = b := by simpa using hj
        subst hb
        exact ⟨x1, kk, x2, by rw [hal]; exact hx, hkey, up _ _ (Nat.ne_of_gt hSl) ht⟩
      · have hnone : (as ++ [h.objs.size])[j]? = none := List.getElem?_eq_none (by rw [List.length_append, List.length_singleton]; omega)
        rw [hnone] at hj; cases hj
end
end Sv
end
section
set_option Elab.async false
set_option linter.all false
set_option autoImplicit false
set_option maxRecDepth 100000
/-! Z3: list(zip(a, b)): the call. -/
namespace Sv
open PySem PySem.Spec PyProof.Rows
theorem zip_no_len : typeLookup (.type "zip") "__len__" = pure none := am_miss_of_fast (by decide +kernel)
theorem zip_no_hint : typeLookup (.type "zip") "__length_hint__" = pure none := am_miss_of_fast (by decide +kernel)
section
variable {prog : Program} {w : World} {K : Type} [DecidableEq K] {knd : KeyKind prog w K} {A : Around} {s : Shared} {kvs : List (K × Value)}
variable {z TI TO i1 i2 S : Addr} {fp1 fp2 : List Addr} {n1 n2 : Nat} {P1 P2 : Nat → Value → Prop} {St1 St2 : Nat → Heap → Prop}
theorem zs_extend {R : Result → Shared → Prop} (ZP : ZipSep2 z TI TO i1 i2 fp1 fp2) (D1 : Draws prog w A.in1.in1 i1 fp1 n1 P1 St1) (D2 : Draws prog w A.in1.in1 i2 fp2 n2 P2 St2) (hzS : z ≠ S) (hTI : TI ≠ S) (hTO : TO ≠ S) (f1 : S ∉ fp1) (f2 : S ∉ fp2)
    (hzl : z < S) (hTOl : TO < S) (h1l : i1 < S) (h2l : i2 < S)
    (hn1 : n1 = kvs.length) (hn2 : n2 = kvs.length) (hP : ∀ j x1 x2, P1 j x1 → P2 j x2 → ∃ k, kvs[j]? = some (k, x2) ∧ knd.is k x1 = true) (hn : kvs.length ≤ sizeLine) (res : Value) (c₀ : Nat)
    (hst : ZS z TI TO i1 i2 S St1 St2 0 s.heap) (hz0 : IsZip s.heap z TI TO .none) (hS : s.heap.get? S = some { cls := .type "list", data := .seq #[] c₀ })
    (hR : ∀ h' tk acc c as, (∀ b o, b ≠ S → b ≠ z → b ≠ TO → b ≠ i1 → b ≠ i2 → s.heap.get? b = some o → h'.get? b = some o) → h'.get? S = some { cls := .type "list", dict := none, data := .seq acc c, slots := #[] } → as.length = kvs.length → PySem.W.KdxG knd kvs S h' as →
      acc.toList = as.map Value.ref → R (.ok (.ret res)) { s with heap := h', toks := tk }) :
    wpAny (model prog w) A.in1 (Builtin.List.listExtendWith (.ref S) (.ref z) res)
      (fun fin s' => match fin with | .done f => R (.ok f) s' | .again c' => c'.quiet = true ∧ codeAny (model prog w) A c' R s') (fun e s' => R (.error e) s') s := by
  have key : ∀ (h : Heap) (c₁ tk : Nat), (∀ b o, b ≠ S → s.heap.get? b = some o → h.get? b = some o) →
      h.get? S = some { cls := .type "list", data := .seq #[] c₁ } → codeAny (model prog w) A (.builtin "list.extend.loop" ⟨[.ref S, .ref z, res], []⟩) R { s with heap := h, toks := tk } := by
    intro h c₁ tk hk hS₁
    exact zs_loop (knd := knd) (kvs := kvs) (s := s) (h₁ := s.heap) ZP D1 D2 hzS hTI hTO f1 f2 hzl hTOl h1l h2l hn1 hn2 hP hn res (fun h' tk' acc c as hk' hS' hl hG hacc => hR h' tk' acc c as hk' hS' hl hG hacc)
      kvs.length 0 h tk c₁ #[] [] (Nat.sub_zero _) (Nat.zero_le _) (hst.keep D1 D2 hk hzS hTI hTO f1 f2) (fun b o hb _ _ _ _ e => hk b o hb e) hS₁ rfl rfl
      ⟨List.Pairwise.nil, (fun _ ha => nomatch ha), (fun j a hj => by simp at hj)⟩
  have hT : s.TypeIs (.ref z) "zip" := ⟨_, hz0, rfl⟩
  unfold Builtin.List.listExtendWith
  refine wpAny_bind (wpAny_typeOf (T := "zip") hT ?_)
  have h1 : Builtin.List.listSameRef (.ref S) (.ref z) = false := by simp [Builtin.List.listSameRef, hzS.symm]
  have h2 : (Value.type "zip" == Value.type "list") = false := by decide
  have h3 : (Value.type "zip" == Value.type "tuple") = false := by decide
  simp only [h1, h2, h3, Bool.or_false, Bool.false_eq_true, if_false]
  refine wpAny_bind (wpAny_pyIter_zip hz0 ?_)
  refine wpAny_bind (wpAny_holding ?_)
  unfold Builtin.List.listLengthHint
  refine wpAny_bind (wpAny_specialOf hT zip_no_len ?_)
  show wpAny _ A.in1 (specialOf (Value.ref z) (Str.ofString "__length_hint__") >>= _) _ _ _
  refine wpAny_bind (wpAny_specialOf hT zip_no_hint ?_)
  refine wpAny_pure ?_
  show wpAny _ A.in1 (rule "list.extend.makes-room" >>= fun _ => Builtin.List.listTouch (.ref S) >>= fun _ =>
    again (.builtin "list.extend.loop" ⟨[.ref S, .ref z, res], []⟩)) _ _ _
  refine wpAny_bind (wpAny_rule ?_)
  refine wpAny_bind ?_
  show wpAny _ A.in1 (updateSeq S (·.push .none) >>= fun _ => updateSeq S (·.pop)) _ _ _
  refine wpAny_bind (wpAny_updateSeq hS rfl ?_)
  have hS₂ := Heap.get?_update_self (Obj.mapSeq (·.push Value.none)) hS rfl
  refine wpAny_updateSeq (hz := by seq_fits) hS₂ rfl ?_
  have hS₃ := Heap.get?_update_self (Obj.mapSeq (·.pop)) hS₂ rfl
  refine wpAny_pure ⟨plainId_quiet PySem.F.plain_extend_loop _, key _ _ _ (fun b o hb e => ?_) hS₃⟩
  exact (Heap.get?_update_other _ _ (Ne.symm hb)).trans ((Heap.get?_update_other _ _ (Ne.symm hb)).trans e)
theorem zs_call {E : Value → Shared → Prop} {Q : Value → Shared → Prop} (ZP : ZipSep2 z TI TO i1 i2 fp1 fp2) (D1 : Draws prog w A.in1.in1.in1 i1 fp1 n1 P1 St1) (D2 : Draws prog w A.in1.in1.in1 i2 fp2 n2 P2 St2)
    (lz : z < s.heap.objs.size) (lTI : TI < s.heap.objs.size) (lTO : TO < s.heap.objs.size) (l1 : i1 < s.heap.objs.size) (l2 : i2 < s.heap.objs.size) (f1 : ∀ b ∈ fp1, b < s.heap.objs.size) (f2 : ∀ b ∈ fp2, b < s.heap.objs.size)
    (hn1 : n1 = kvs.length) (hn2 : n2 = kvs.length) (hP : ∀ j x1 x2, P1 j x1 → P2 j x2 → ∃ k, kvs[j]? = some (k, x2) ∧ knd.is k x1 = true) (hn : kvs.length ≤ sizeLine)
    (hTIp : IsTupOf2 s.heap TI (.ref i1) (.ref i2)) (hTOp : IsTupOf2 s.heap TO .none .none) (hz0 : IsZip s.heap z TI TO .none) (st1 : St1 0 s.heap) (st2 : St2 0 s.heap)
    (hQ : ∀ h' tk acc c as, (∀ b o, b ≠ z → b ≠ TO → b ≠ i1 → b ≠ i2 → s.heap.get? b = some o → h'.get? b = some o) → h'.get? s.heap.objs.size = some { cls := .type "list", dict := none, data := .seq acc c, slots := #[] } → as.length = kvs.length → PySem.W.KdxG knd kvs s.heap.objs.size h' as →
      acc.toList = as.map Value.ref → Q (.ref s.heap.objs.size) { s with heap := h', toks := tk }) :
    wpAny (model prog w) A (call (.type "list") [.ref z]) Q E s := by
  have ltn : ∀ {b}, b < s.heap.objs.size → b ≠ s.heap.objs.size := fun h => Nat.ne_of_lt h
  refine callType_codes (Q₁ := fun obj s₁ => obj = .ref s.heap.objs.size ∧ s₁ = { s with heap := s.heap.push { cls := .type "list", data := .seq #[] } }) PySem.F.called_list (PySem.F.typeCall_list_1 _) PySem.F.entry_list_init
    (code_list_new _ ⟨rfl, rfl⟩) fun obj s₁ h₁ => ?_
  obtain ⟨rfl, rfl⟩ := h₁
  have hS : (s.heap.push { cls := .type "list", data := .seq #[] }).get? s.heap.objs.size = some { cls := .type "list", data := .seq #[] } := Heap.get?_push_size _ rfl
  refine ⟨⟨_, hS, rfl⟩, PySem.F.args_list_init_2 _ _, ?_⟩
  show wpAny _ _ (do let old ← Builtin.List.listItems (.ref s.heap.objs.size); Builtin.List.listUpdate (.ref s.heap.objs.size) (fun _ => #[]); letGo old.toList.reverse; Builtin.List.listExtendWith (.ref s.heap.objs.size) (.ref z) .none) _ _ _
  refine wpAny_bind ?_
  unfold Builtin.List.listItems
  refine wpAny_bind (wpAny_seqItems hS rfl (wpAny_pure ?_))
  show wpAny _ _ (updateSeq s.heap.objs.size (fun _ => #[]) >>= fun _ => letGo (#[] : Array Value).toList.reverse >>= fun _ => Builtin.List.listExtendWith (.ref s.heap.objs.size) (.ref z) .none) _ _ _
  refine wpAny_bind (wpAny_updateSeq hS rfl ?_)
  have hS₂ := Heap.get?_update_self (Obj.mapSeq (fun _ => (#[] : Array Value))) hS rfl
  have oth : ∀ b o, b ≠ s.heap.objs.size → s.heap.get? b = some o → ((s.heap.push { cls := .type "list", data := .seq #[] }).update s.heap.objs.size (Obj.mapSeq (fun _ => (#[] : Array Value)))).get? b = some o :=
    fun b o hb e => (Heap.get?_update_other _ _ (Ne.symm hb)).trans (Heap.get?_push_of_some _ e)
  refine wpAny_bind (wpAny_letGo ?_)
  have z0 := oth _ _ (ltn lz) hz0
  refine zs_extend (knd := knd) (kvs := kvs) (A := A.in1) ZP D1 D2 (ltn lz) (ltn lTI) (ltn lTO) (fun m => Nat.lt_irrefl _ (f1 _ m)) (fun m => Nat.lt_irrefl _ (f2 _ m)) lz lTO l1 l2 hn1 hn2 hP hn .none _
    ⟨oth _ _ (ltn lTI) hTIp, D1.frame _ _ _ st1 fun b hb o e => oth b o (ltn (f1 b hb)) e, D2.frame _ _ _ st2 fun b hb o e => oth b o (ltn (f2 b hb)) e, .inl ⟨z0, _, _, oth _ _ (ltn lTO) hTOp⟩⟩ z0 hS₂ (fun h' tk acc c as hk hS' hl hG hacc => ?_)
  exact ⟨rfl, hQ h' tk acc c as (fun b o h2 h3 h4 h5 e => hk b o (ltn (Heap.lt_size e)) h2 h3 h4 h5 (oth b o (ltn (Heap.lt_size e)) e)) hS' hl hG hacc⟩
end
end Sv
end
section
set_option Elab.async false
set_option linter.all false
set_option autoImplicit false
set_option maxRecDepth 100000
set_option maxHeartbeats 2000000
/-! Z4: list(zip(a, b)) as a value. -/
namespace Sv
open PySem PySem.Spec PyProof.Rows L2 LiI
section
variable {X : Cx} {p apos cpos pos : Pos}
theorem laid2 {pins : List (Addr × Obj)} {σ : L2.St} {H : Hp} {s : Shared} {h' : Heap} {tk : Nat} {kvs : List (Key × V)} {vs : List (Key × Value)} {acc : Array Value} {c : Nat} {as : List Addr} {S : Addr} (I : Inv X pins σ H s) (hz : kvs.length ≤ sizeLine) (kv : KV kvs vs)
    (hk : ∀ b o, s.heap.get? b = some o → h'.get? b = some o) (hSz : s.heap.objs.size ≤ S) (hS : h'.get? S = some { cls := .type "list", dict := none, data := .seq acc c, slots := #[] }) (hl : as.length = vs.length) (hG : PySem.W.KdxG (mixKind X.prog X.w) vs S h' as) (hacc : acc.toList = as.map Value.ref) :
    ∃ H' : Hp, (∀ b o, H b = some o → H' b = some o) ∧ H S = none ∧ (∀ t ∈ as, H t = none) ∧ S ∉ as ∧ H' S = some (.lst (as.map V.ref)) ∧ Paired (fun (t : Addr) (q : Key × V) => H' t = some (.tup [kV q.1, q.2])) as kvs ∧ Inv X pins σ H' { s with heap := h', toks := tk } := by
  have lk : kvs.length = vs.length := Paired.length kv
  have hSn : S ∉ as := fun z => Nat.lt_irrefl _ (hG.above _ z)
  have nd : as.Nodup := List.Pairwise.imp (fun {a b} (h : a < b) => Nat.ne_of_lt h) hG.rise
  have new : ∀ t ∈ as, H t = none := fun t ht => I.hok.fresh (Nat.le_trans hSz (Nat.le_of_lt (hG.above t ht)))
  have newS : H S = none := I.hok.fresh hSz
  have atP := putT_at as kvs (upd H S (.lst (as.map V.ref))) (by omega) nd
  have off : ∀ b, b ∉ as → b ≠ S → putT (upd H S (.lst (as.map V.ref))) as kvs b = H b := fun b h1 h2 => by rw [putT_off as kvs _ h1, upd_ne h2]
  have low : ∀ b o, s.heap.get? b = some o → b ∉ as ∧ b ≠ S := fun b o e => ⟨fun z => absurd (Heap.lt_size e) (Nat.not_lt.mpr (Nat.le_trans hSz (Nat.le_of_lt (hG.above b z)))), Nat.ne_of_lt (Nat.lt_of_lt_of_le (Heap.lt_size e) hSz)⟩
  have kp : ∀ b u, H b = some u → (putT (upd H S (.lst (as.map V.ref))) as kvs) b = some u := fun b u e => by
    rw [off b (fun z => by rw [new b z] at e; cases e) (fun z => by rw [z, newS] at e; cases e)]
    exact e
  have eS : putT (upd H S (.lst (as.map V.ref))) as kvs S = some (.lst (as.map V.ref)) := by rw [putT_off as kvs _ hSn, upd_same]
  refine ⟨putT (upd H S (.lst (as.map V.ref))) as kvs, kp, newS, new, hSn, eS, atP, ?_⟩
  refine I.call' (ch := []) rfl ⟨fun b o q _ _ _ => hk b o q, fun b o q _ _ _ => ⟨o.slots, hk b o q⟩, fun b o q n _ => ?_, fun b o q _ => ⟨o, hk b o q⟩, fun b xs q => kp b _ q, fun b o u q => kp b _ q, fun b ps q => ⟨#[], by rw [kp b _ q]; simp⟩⟩ (fun b u q => ?_) I.bare fun b z => by simp at z
  · obtain ⟨z1, z2⟩ := low b o q
    rw [off b z1 z2]
    exact n
  · by_cases hb : b ∈ as
    · obtain ⟨j, pk, e1, e2, e3⟩ := paired_ix atP hb
      rw [e3] at q
      cases q
      obtain ⟨key, k, x, f1, f2, f3⟩ := hG.pairs j b e1
      obtain ⟨qv, g1, g2, g3⟩ := LiI.paired_get kv e2
      rw [f1] at g1
      cases g1
      have rk : RelV (kV pk.1) key := by
        rw [g2]
        exact relV_key (show keyIs k key = true from f2)
      exact ⟨by show 2 ≤ sizeLine; decide, [key, x], .cons rk (.cons g3 .nil), ⟨_, f3, rfl, _, rfl⟩⟩
    · by_cases hb2 : b = S
      · rw [hb2] at q ⊢
        rw [eS] at q
        cases q
        refine ⟨by rw [List.length_map]; omega, acc.toList, c, by rw [hacc]; exact vals_refs as, ?_⟩
        rw [Array.toArray_toList]
        exact hS
      · rw [off b hb hb2] at q
        exact (I.hok b u q).stay (fun d v _ y => hk d v y) (fun d y => kp d _ y) fun d xs y => kp d _ y
/-- the pairs of names and items -/
def zpK (ns : List Str) (ys : List V) : List (Key × V) := (ns.zip ys).map fun q => (Sum.inr q.1, q.2)
def tListZip (K : PySem.W.Frag) (ta : TA) : TE := fun σ H Q => ta σ H fun vs H1 => ∃ (a b : Addr) (ns : List Str) (ys : List V), vs = [.ref a, .ref b] ∧ SqT K H1 a (ns.map V.str) ∧ (SqL K H1 b ys ∨ SqT K H1 b ys) ∧ ns.length = ys.length ∧ ns.length ≤ 1000 ∧
  ∀ (H' : Hp) (p : Addr) (ts : List Addr), (∀ b o, H1 b = some o → H' b = some o) → H1 p = none → (∀ t ∈ ts, H1 t = none) → p ∉ ts → H' p = some (.lst (ts.map V.ref)) → Paired (fun (t : Addr) (q : Key × V) => H' t = some (.tup [kV q.1, q.2])) ts (zpK ns ys) → Q (.ref p) H'
theorem vals_at : ∀ {xs : List V} {us : List Value} {j : Nat} {u : Value}, Vals xs us → us[j]? = some u → ∃ x, xs[j]? = some x ∧ RelV x u
  | _, _, j, u, .nil, e => by simp at e
  | _, _, 0, u, .cons r _, e => ⟨_, rfl, by simp at e; rw [← e]; exact r⟩
  | _, _, j + 1, u, .cons _ r, e => by
    obtain ⟨x, h1, h2⟩ := vals_at (j := j) r (by simpa using e)
    exact ⟨x, by simpa using h1, h2⟩
theorem ne_nat {x y : Nat} (h : x < y ∨ y < x) : x ≠ y := fun e => by omega
theorem nmem2 {x y z : Addr} (h1 : x ≠ y) (h2 : x ≠ z) : x ∉ [y, z] := fun m => by
  rcases List.mem_cons.mp m with e | m
  · exact h1 e
  · exact h2 (List.mem_singleton.mp m)
theorem sep2 {N a b : Nat} (ha : a < N) (hb : b < N) : ZipSep2 (N + 4) (N + 2) (N + 3) N (N + 1) [N, a] [N + 1, b] where
  TIz := ne_nat (by omega)
  TOz := ne_nat (by omega)
  TITO := ne_nat (by omega)
  TIi1 := ne_nat (by omega)
  mem1 := List.mem_cons_self
  zf1 := nmem2 (ne_nat (by omega)) (ne_nat (by omega))
  Tf1 := nmem2 (ne_nat (by omega)) (ne_nat (by omega))
  TIi2 := ne_nat (by omega)
  mem2 := List.mem_cons_self
  zf2 := nmem2 (ne_nat (by omega)) (ne_nat (by omega))
  Tf2 := nmem2 (ne_nat (by omega)) (ne_nat (by omega))
  sep1_2 := nmem2 (ne_nat (by omega)) (ne_nat (by omega))
  sep2_1 := nmem2 (ne_nat (by omega)) (ne_nat (by omega))
theorem lt_nat {N a j : Nat} (ha : a < N) : a < N + j := by omega
theorem ltj_nat {N i j : Nat} (ha : i < j) : N + i < N + j := by omega
theorem mem2_lt {x y z M : Nat} (h : x ∈ [y, z]) (h1 : y < M) (h2 : z < M) : x < M := by
  rcases List.mem_cons.mp h with e | m
  · omega
  · have := List.mem_singleton.mp m
    omega
theorem kv_zip : ∀ {ns : List Str} {ys : List V} {us : List Value}, Vals ys us → KV (zpK ns ys) ((ns.zip us).map fun q => ((Sum.inr q.1 : Key), q.2))
  | [], _, _, _ => .nil
  | _ :: _, _, _, .nil => .nil
  | _ :: ns, _, _, .cons r h => .cons ⟨rfl, r⟩ (kv_zip (ns := ns) h)
theorem zp_core {pins : List (Addr × Obj)} {σ : L2.St} {H : Hp} {s : Shared} {A : Around} {E : Value → Shared → Prop} {Q : Value → Shared → Prop} {a b : Addr} {ns : List Str} {ys : List V} {o1 o2 : Obj} {G1 G2 : Heap → Prop} {its its2 : List Value} (I : Inv X pins σ H s)
    (B1 : Begins (.ref a) o1 G1) (B2 : Begins (.ref b) o2 G2) (g1 : G1 s.heap) (g2 : G2 s.heap) (r1 : Vals (ns.map V.str) its) (r2 : Vals ys its2) (hlen : ns.length = ys.length) (hle : ns.length ≤ 1000) {St1 St2 : Addr → Nat → Heap → Prop} (ha : a < s.heap.objs.size) (hb : b < s.heap.objs.size)
    (D1 : ∀ i, a ≠ i → Draws X.prog X.w X.A.in1.in1.in1 i [i, a] its.toArray.size (fun j v => its.toArray[j]? = some v) (St1 i)) (D2 : ∀ i, b ≠ i → Draws X.prog X.w X.A.in1.in1.in1 i [i, b] its2.toArray.size (fun j v => its2.toArray[j]? = some v) (St2 i))
    (s1 : ∀ i h, h.get? i = some o1 → G1 h → St1 i 0 h) (s2 : ∀ i h, h.get? i = some o2 → G2 h → St2 i 0 h)
    (hq : ∀ (H' : Hp) (p : Addr) (ts : List Addr) (s' : Shared), Inv X pins σ H' s' → (∀ b o, H b = some o → H' b = some o) → H p = none → (∀ t ∈ ts, H t = none) → p ∉ ts → H' p = some (.lst (ts.map V.ref)) → Paired (fun (t : Addr) (q : Key × V) => H' t = some (.tup [kV q.1, q.2])) ts (zpK ns ys) → Q (.ref p) s') :
    wpAny (model X.prog X.w) X.A (call (.type "zip") [.ref a, .ref b]) (fun u s1 => wpAny (model X.prog X.w) X.A (call (.type "list") [u]) Q E s1) E s := by
  refine zip_begins2 B1 B2 g1 g2 fun h' hz hTI hTO h1 h2 hsz hk => ?_
  have e1 := Paired.length r1
  have e2 := Paired.length r2
  rw [List.length_map] at e1
  have G1' := B1.keeps _ _ g1 hk
  have G2' := B2.keeps _ _ g2 hk
  have vl : ((ns.zip its2).map fun q => ((Sum.inr q.1 : Key), q.2)).length = ns.length := by rw [List.length_map, List.length_zip]; omega
  have zl : (zpK ns ys).length ≤ sizeLine := by
    unfold zpK
    rw [List.length_map, List.length_zip, sizeLine_eq]
    omega
  generalize hN : s.heap.objs.size = N at *
  have ZP := sep2 (N := N) (a := a) (b := b) ha hb
  refine zs_call (knd := mixKind X.prog X.w) (kvs := (ns.zip its2).map fun q => ((Sum.inr q.1 : Key), q.2)) (s := { s with heap := h' }) ZP (D1 N (Nat.ne_of_lt ha)) (D2 (N + 1) (Nat.ne_of_lt (Nat.lt_succ_of_lt hb))) ?_ ?_ ?_ ?_ ?_ ?_ ?_ ?_ ?_ ?_ ?_ hTI hTO hz (s1 _ _ h1 G1') (s2 _ _ h2 G2') fun h2' tk acc c as hk2 hS hl hG hacc => ?_
  · show N + 4 < h'.objs.size
    rw [hsz]
    exact ltj_nat (by decide)
  · show N + 2 < h'.objs.size
    rw [hsz]
    exact ltj_nat (by decide)
  · show N + 3 < h'.objs.size
    rw [hsz]
    exact ltj_nat (by decide)
  · show N < h'.objs.size
    rw [hsz]
    exact ltj_nat (i := 0) (by decide)
  · show N + 1 < h'.objs.size
    rw [hsz]
    exact ltj_nat (by decide)
  · intro c hc
    show c < h'.objs.size
    rw [hsz]
    exact mem2_lt hc (ltj_nat (i := 0) (by decide)) (lt_nat ha)
  · intro c hc
    show c < h'.objs.size
    rw [hsz]
    exact mem2_lt hc (ltj_nat (by decide)) (lt_nat hb)
  · show its.toArray.size = _
    rw [vl, List.size_toArray, ← e1]
  · show its2.toArray.size = _
    rw [vl, List.size_toArray, ← e2, hlen]
  · intro j x1 x2 p1 p2
    obtain ⟨v1, q1, q2⟩ := vals_at r1 (by simpa using p1)
    rw [List.getElem?_map] at q1
    obtain ⟨n, q3, rfl⟩ := Option.map_eq_some_iff.mp q1
    obtain ⟨t, rfl⟩ := q2
    refine ⟨Sum.inr n, ?_, ?_⟩
    · rw [List.getElem?_map, (List.getElem?_zip_eq_some (z := (n, x2))).mpr ⟨q3, by simpa using p2⟩]
      rfl
    · show keyIs (.inr n) (.str n t) = true
      simp [keyIs, Value.isStrOf]
  · rw [vl, sizeLine_eq]
    omega
  · obtain ⟨H', k1, k2, k3, k4, k5, k6, J⟩ := laid2 (tk := tk) (S := h'.objs.size) I zl (kv_zip r2) (fun c o e => hk2 c o (fun z => by have := Heap.lt_size e; rw [z, hN] at this; exact absurd this (Nat.not_lt.mpr (Nat.le_add_right _ _))) (fun z => by have := Heap.lt_size e; rw [z, hN] at this; exact absurd this (Nat.not_lt.mpr (Nat.le_add_right _ _))) (fun z => by have := Heap.lt_size e; rw [z, hN] at this; exact Nat.lt_irrefl _ this) (fun z => by have := Heap.lt_size e; rw [z, hN] at this; exact absurd this (Nat.not_lt.mpr (Nat.le_add_right _ _))) (hk c o e)) (by rw [hN, hsz]; exact Nat.le_add_right _ _) hS hl hG hacc
    exact hq H' _ as _ J k1 k2 k3 k4 k5 k6
end
end Sv
end
section
set_option Elab.async false
set_option linter.all false
set_option autoImplicit false
set_option maxRecDepth 100000
set_option maxHeartbeats 2000000
/-! Z5: the rule of list(zip(a, b)). -/
namespace Sv
open PySem PySem.Spec PyProof.Rows L2 LiI
section
variable {X : Cx} {p zp zpos pos : Pos} {e e2 : Expr} {ta : TA}
theorem pe_listZip (hc : X.calm = true) (ha : PA X [e, e2] ta) (hg : Gl X "list") (hm : X.mg "list" = none) (hgz : Gl X "zip") (hmz : X.mg "zip" = none)
    (hs0 : starEach [e, e2] X.env = (false, eval e X.env) :: starEach [e2] X.env := by rfl) (hpl : (backTo zpos (starEach [e2] X.env)).any (·.1) = false := by rfl)
    (hs : starEach [.Call (.Name "zip" zp) [e, e2] [] zpos] X.env = (false, eval (.Call (.Name "zip" zp) [e, e2] [] zpos) X.env) :: starEach [] X.env := by rfl) :
    PE X (.Call (.Name "list" p) [.Call (.Name "zip" zp) [e, e2] [] zpos] [] pos) (tListZip X.K ta) := by
  refine ⟨fun pins s σ H Q I hq => ?_⟩
  refine wpAny_Call_Name_kw (ld_blt I hg hm (show bootBuiltins "list" = some (.type "list") from by decide +kernel) ?_)
  refine PyProof.Rows.callWith_type1 ?_ hs rfl
  rw [hs]
  show wpAny _ _ (spliced ((false, eval (.Call (.Name "zip" zp) [e, e2] [] zpos) X.env) :: backTo pos (starEach [] X.env))) _ _ s
  refine Calls.spliced_cons ?_
  refine wpAny_Call_Name_kw (ld_blt I hgz hmz PyProof.Rows.boot_zip (PyProof.Rows.callWith_type1 (thn (ha.run zpos pins s σ H _ I hq) fun us s1 ⟨vs, H1, I1, r1, a, b, ns, ys, ev, hqa, hqb, hlen, hle, q⟩ => ?_) hs0 hpl))
  subst ev
  cases r1 with
  | cons r rr =>
    cases rr with
    | cons r' rr =>
      cases rr
      cases r
      cases r'
      obtain ⟨its, rv, p1, _⟩ := I1.tuple hqa
      obtain ⟨oa, hoa, _⟩ := id p1
      have la := Heap.lt_size hoa
      have hd : X.A.handled = none := I1.ok.hd hc
      rcases hqb with hqb | hqb
      · obtain ⟨its2, rv2, p2, _⟩ := I1.list hqb
        have lb := p2.lt
        refine wpAny_mono (zp_core (A := X.A) (Q := EP X pins σ Q) (E := X.xe) (St1 := fun i j h => h.IsTupleIter i a j ∧ h.IsTuple a its.toArray) (St2 := fun i j h => h.IsListIter i b j ∧ h.IsList b its2.toArray) I1 (begins_tuple a its.toArray) (begins_list b its2.toArray) p1 p2.isList rv rv2 hlen hle la lb
          (fun i hi => Draws.tuple (A := X.A.in1.in1.in1) hd i a hi its.toArray) (fun i hi => Draws.list (A := X.A.in1.in1.in1) hd i b hi its2.toArray) (fun i h h1 h2 => ⟨⟨_, h1, rfl, rfl⟩, h2⟩) (fun i h h1 h2 => ⟨⟨_, h1, rfl, rfl⟩, h2⟩) ?_) (fun u s2 hz => ?_) (fun _ _ z => z)
        · intro H' pp ts s' J k1 k2 k3 k4 k5 k6
          exact ⟨.ref pp, H', J, rfl, q H' pp ts k1 k2 k3 k4 k5 k6⟩
        · exact Calls.spliced_nil hz
      · obtain ⟨its2, rv2, p2, _⟩ := I1.tuple hqb
        obtain ⟨ob, hob, _⟩ := id p2
        have lb := Heap.lt_size hob
        refine wpAny_mono (zp_core (A := X.A) (Q := EP X pins σ Q) (E := X.xe) (St1 := fun i j h => h.IsTupleIter i a j ∧ h.IsTuple a its.toArray) (St2 := fun i j h => h.IsTupleIter i b j ∧ h.IsTuple b its2.toArray) I1 (begins_tuple a its.toArray) (begins_tuple b its2.toArray) p1 p2 rv rv2 hlen hle la lb
          (fun i hi => Draws.tuple (A := X.A.in1.in1.in1) hd i a hi its.toArray) (fun i hi => Draws.tuple (A := X.A.in1.in1.in1) hd i b hi its2.toArray) (fun i h h1 h2 => ⟨⟨_, h1, rfl, rfl⟩, h2⟩) (fun i h h1 h2 => ⟨⟨_, h1, rfl, rfl⟩, h2⟩) ?_) (fun u s2 hz => ?_) (fun _ _ z => z)
        · intro H' pp ts s' J k1 k2 k3 k4 k5 k6
          exact ⟨.ref pp, H', J, rfl, q H' pp ts k1 k2 k3 k4 k5 k6⟩
        · exact Calls.spliced_nil hz
end
end Sv
end
section
set_option Elab.async false
set_option linter.all false
set_option autoImplicit false
set_option maxRecDepth 100000
set_option maxHeartbeats 2000000
/-! Z6: a loop over zip(list, tuple) or zip(tuple, tuple). -/
namespace Sv
open PySem PySem.Spec PyProof.Rows L2
/-- a list at a, a tuple at b, the items in new pairs -/
def ItzM (K : PySem.W.Frag) (a b : Addr) : It :=
  ⟨fun i H => ∃ (xs ys : List V) (x y : V), SqL K H a xs ∧ SqT K H b ys ∧ xs[i]? = some x ∧ ys[i]? = some y,
    fun i H v H' => ∃ T x y, v = .ref T ∧ H T = none ∧ H' = upd H T (.tup [x, y]) ∧ (∀ xs, SqL K H a xs → xs[i]? = some x) ∧ ∀ ys, SqT K H b ys → ys[i]? = some y,
    fun i H => ∃ xs ys : List V, SqL K H a xs ∧ SqT K H b ys ∧ i = xs.length ∧ i = ys.length⟩
theorem mem5 {c z TI TO i1 i2 : Addr} (h : c ∈ [z, TI, TO, i1, i2]) : c = z ∨ c = TI ∨ c = TO ∨ c = i1 ∨ c = i2 := by simpa using h
theorem turn_zipM {P : Program} {w : World} {K : PySem.W.Frag} {elts : List Expr} {kk : Nat} {tpos : Pos} {a b z TI TO i1 i2 : Addr} (D : ZipSep2 z TI TO i1 i2 [i1, a] [i2, b]) (ha : a ≠ i1) (hb : b ≠ i2) :
    Turn P w K (.Tuple elts kk tpos) (ItzM K a b) [z, TI, TO, i1, i2] z (fun i h => IsZip h z TI TO .none ∧ IsTupOf2 h TI (.ref i1) (.ref i2) ∧ (∃ x y, IsTupOf2 h TO x y) ∧ h.IsListIter i1 a i ∧ h.IsTupleIter i2 b i) where
  mem := by simp
  obj := fun i h st c hc => by
    obtain ⟨hz, hTI, ⟨x, y, hTO⟩, ⟨o1, e1, _, d1⟩, ⟨o2, e2, _, d2⟩⟩ := st
    rcases mem5 hc with q | q | q | q | q
    · rw [q]; exact ⟨_, hz, fun v q => nomatch q⟩
    · rw [q]; exact ⟨_, hTI, fun v q => nomatch q⟩
    · rw [q]; exact ⟨_, hTO, fun v q => nomatch q⟩
    · rw [q]; exact ⟨o1, e1, fun v q => by rw [d1] at q; cases q⟩
    · rw [q]; exact ⟨o2, e2, fun v q => by rw [d2] at q; cases q⟩
  keep := fun i h h' st k => by
    obtain ⟨hz, hTI, ⟨x, y, hTO⟩, h1, h2⟩ := st
    exact ⟨k z (by simp) _ hz, k TI (by simp) _ hTI, ⟨x, y, k TO (by simp) _ hTO⟩, h1.at fun o q => k i1 (by simp) o q, h2.at fun o q => k i2 (by simp) o q⟩
  item := by
    intro X hP hw hK hc i pins s σ H E I hf st hg
    subst hP hw hK
    obtain ⟨hz, hTI, ⟨x0, y0, hTO⟩, h1, h2⟩ := st
    obtain ⟨xs, ys, x, y, hqx, hqy, hx, hy⟩ := hg
    obtain ⟨its, rv, p, _⟩ := I.list hqx
    obtain ⟨its2, rv2, p2, _⟩ := I.tuple hqy
    obtain ⟨u, hu, ru⟩ := rv.get hx
    obtain ⟨u2, hu2, ru2⟩ := rv2.get hy
    have hzl : z < s.heap.objs.size := Heap.lt_size hz
    have l1 : i < its.toArray.size := by have := (List.getElem?_eq_some_iff.mp hu).1; simpa using this
    have l2 : i < its2.toArray.size := by have := (List.getElem?_eq_some_iff.mp hu2).1; simpa using this
    have hd := I.ok.hd hc
    have D1 := Draws.list (prog := X.prog) (w := X.w) (A := X.A.in1) hd i1 a ha its.toArray
    have D2 := Draws.tuple (prog := X.prog) (w := X.w) (A := X.A.in1) hd i2 b hb its2.toArray
    refine wpAny_pyNext_zipD2_item D D1 D2 hz hTI hTO ⟨h1, p.isList⟩ ⟨h2, p2⟩ l1 l2 fun v1 v2 h' tk e1 e2 z' TO' s1' s2' hT hsz hk => ?_
    have ev1 : v1 = u := by
      have q1 : its.toArray[i]? = some v1 := e1
      have q2 : its.toArray[i]? = some u := by simpa using hu
      exact (Option.some.inj (q2.symm.trans q1)).symm
    have ev2 : v2 = u2 := by
      have q1 : its2.toArray[i]? = some v2 := e2
      have q2 : its2.toArray[i]? = some u2 := by simpa using hu2
      exact (Option.some.inj (q2.symm.trans q1)).symm
    subst ev1
    subst ev2
    have h1' : h'.IsListIter i1 a (i + 1) := s1'.1
    have h2' : h'.IsTupleIter i2 b (i + 1) := s2'.1
    refine ⟨_, rfl, wpAny_letOwnedTupleGo_zip (s := { s with heap := h', toks := tk }) z' fun h'' z'' sb => ?_⟩
    have hT2 : h''.get? s.heap.objs.size = some { cls := .type "tuple", data := .seq #[v1, v2] } := (sb.2 _ (Nat.ne_of_gt hzl)).trans hT
    have new : ObjOk X.prog X.w (upd H s.heap.objs.size (.tup [x, y])) h'' s.heap.objs.size (.tup [x, y]) :=
      ⟨by show 2 ≤ sizeLine; decide, [v1, v2], .cons ru (.cons ru2 .nil), ⟨_, hT2, rfl, _, rfl⟩⟩
    have I1 : Inv X pins σ (upd H s.heap.objs.size (.tup [x, y])) { s with heap := h'', toks := tk } :=
      I.turnedNew (t' := tk) (ch := [z, TI, TO, i1, i2]) (fun c o hb q => (sb.2 c (fun q' => hb (by simp [q']))).trans (hk c o (fun q' => hb (by simp [q'])) (fun q' => hb (by simp [q'])) (fun q' => hb (by simp [q'])) (fun q' => hb (by simp [q'])) q)) hf (Nat.le_refl _) new
    have i1z : i1 ≠ z := fun q => D.zf1 (by rw [← q]; exact List.mem_cons_self)
    have i2z : i2 ≠ z := fun q => D.zf2 (by rw [← q]; exact List.mem_cons_self)
    refine ⟨.ref s.heap.objs.size, _, I1, rfl, ⟨_, x, y, rfl, I.hok.fresh (Nat.le_refl _), rfl, fun l hl => by rw [I.list_inj hl hqx]; exact hx, fun l hl => by rw [I.tuple_inj hl hqy]; exact hy⟩, ⟨z'', ?_, ⟨v1, v2, ?_⟩, ?_, ?_⟩, fun c hcm => ?_⟩
    · exact (sb.2 _ D.TIz).trans (hk _ _ D.TIz D.TITO D.TIi1 D.TIi2 hTI)
    · exact (sb.2 _ D.TOz).trans TO'
    · exact h1'.at fun o q => (sb.2 _ i1z).trans q
    · exact h2'.at fun o q => (sb.2 _ i2z).trans q
    · have hlt : c < s.heap.objs.size := by
        rcases mem5 hcm with q | q | q | q | q
        · rw [q]; exact hzl
        · rw [q]; exact Heap.lt_size hTI
        · rw [q]; exact Heap.lt_size hTO
        · rw [q]; obtain ⟨_, e1, _⟩ := h1; exact Heap.lt_size e1
        · rw [q]; obtain ⟨_, e2, _⟩ := h2; exact Heap.lt_size e2
      rw [upd_ne (Nat.ne_of_lt hlt)]
      exact (hf c hcm).1
  done := by
    intro X hP hw hK hc i pins s σ H E I hf st hg
    subst hP hw hK
    obtain ⟨hz, hTI, ⟨x0, y0, hTO⟩, h1, h2⟩ := st
    obtain ⟨xs, ys, hqx, hqy, end1, end2⟩ := hg
    obtain ⟨its, rv, p, _⟩ := I.list hqx
    obtain ⟨its2, rv2, p2, _⟩ := I.tuple hqy
    have l1 := rv.length
    have l2 := rv2.length
    have n1 : i = its.toArray.size := by simp; omega
    have n2 : i = its2.toArray.size := by simp; omega
    have hd := I.ok.hd hc
    have D1 := Draws.list (prog := X.prog) (w := X.w) (A := X.A.in1) hd i1 a ha its.toArray
    have D2 := Draws.tuple (prog := X.prog) (w := X.w) (A := X.A.in1) hd i2 b hb its2.toArray
    refine wpAny_pyNext_zipD2_end D D1 D2 hz hTI hTO ⟨h1, p.isList⟩ ⟨h2, p2⟩ (Nat.le_of_eq n1) (Nat.le_of_eq n2) (.inl n1) fun h' tk hk => ⟨rfl, I.turnedL (t' := tk) (ch := [z, TI, TO, i1, i2]) (fun c o hb q =>
      hk c o (fun q' => hb (by simp [q'])) (fun q' => hb (by simp [q'])) (fun q' => hb (by simp [q'])) (fun q' => hb (by simp [q'])) q) hf⟩
  self := fun A i s Q E st h => wpAny_pyIter_zip st.1 h
def iZipM (K : PySem.W.Frag) (ta : TA) : TI := fun σ H R => ta σ H fun vs H1 => ∃ a b xs ys, vs = [.ref a, .ref b] ∧ ((SqL K H1 a xs ∧ SqT K H1 b ys ∧ R (ItzM K a b) H1) ∨ (SqT K H1 a xs ∧ SqT K H1 b ys ∧ R (RZ.ItzT K a b) H1))
theorem pi_zipM {X : Cx} {e e2 : Expr} {ta : TA} {p pos tpos : Pos} {elts : List Expr} {kk : Nat} (hg : Gl X "zip") (hm : X.mg "zip" = none) (ha : PA X [e, e2] ta)
    (hs : starEach [e, e2] X.env = (false, eval e X.env) :: starEach [e2] X.env := by rfl) (hpl : (backTo pos (starEach [e2] X.env)).any (·.1) = false := by rfl) :
    PI X (.Tuple elts kk tpos) (.Call (.Name "zip" p) [e, e2] [] pos) (iZipM X.K ta) := by
  refine ⟨fun pins s σ H R I h => ?_⟩
  refine Call_ (ld_blt I hg hm PyProof.Rows.boot_zip (PyProof.Rows.callWith_type1 (thn (ha.run pos pins s σ H _ I h) fun us s1 ⟨vs, H1, I1, r1, q1⟩ => ?_) hs hpl))
  obtain ⟨a, b, xs, ys, ex, q1⟩ := q1
  subst ex
  cases r1 with
  | cons r rr =>
    cases rr with
    | cons r' rr =>
      cases rr
      cases r
      cases r'
      have fresh5 : ∀ c, c ∈ [s1.heap.objs.size + 4, s1.heap.objs.size + 2, s1.heap.objs.size + 3, s1.heap.objs.size, s1.heap.objs.size + 1] → FpOk X pins H1 c := fun c hcm => by
        have hle : s1.heap.objs.size ≤ c := by
          rcases mem5 hcm with z | z | z | z | z
          · rw [z]; exact Nat.le_add_right _ _
          · rw [z]; exact Nat.le_add_right _ _
          · rw [z]; exact Nat.le_add_right _ _
          · rw [z]; exact Nat.le_refl _
          · rw [z]; exact Nat.le_add_right _ _
        exact I1.fpOk hle (I1.hok.fresh hle)
      rcases q1 with ⟨hqx, hqy, q⟩ | ⟨hqx, hqy, q⟩
      · obtain ⟨its, rv, p1, _⟩ := I1.list hqx
        obtain ⟨its2, rv2, p2, _⟩ := I1.tuple hqy
        have la := p1.lt
        obtain ⟨ob, hob, _⟩ := id p2
        have lb := Heap.lt_size hob
        refine zip_begins2 (begins_list a its.toArray) (begins_tuple b its2.toArray) p1.isList p2 fun h' hz hTI hTO h1 h2 hsz hk => wpAny_pyIter_zip hz ?_
        have I2 : Inv X pins σ H1 { s1 with heap := h' } := I1.kept (t' := s1.toks) hk
        exact ⟨s1.heap.objs.size + 4, [s1.heap.objs.size + 4, s1.heap.objs.size + 2, s1.heap.objs.size + 3, s1.heap.objs.size, s1.heap.objs.size + 1], _, _, H1, rfl, I2,
          turn_zipM (sep2 la lb) (Nat.ne_of_lt la) (Nat.ne_of_lt (Nat.lt_succ_of_lt lb)), ⟨hz, hTI, ⟨_, _, hTO⟩, ⟨_, h1, rfl, rfl⟩, ⟨_, h2, rfl, rfl⟩⟩, fresh5, q⟩
      · obtain ⟨its, rv, p1, _⟩ := I1.tuple hqx
        obtain ⟨its2, rv2, p2, _⟩ := I1.tuple hqy
        obtain ⟨o1, ho1, _⟩ := id p1
        obtain ⟨o2, ho2, _⟩ := id p2
        refine RZ.call_zipT (show s1.heap.IsTuple a its.toArray from p1) (show s1.heap.IsTuple b its2.toArray from p2) fun h' hz hTI hTO h1 h2 hsz hk => wpAny_pyIter_zip hz ?_
        have I2 : Inv X pins σ H1 { s1 with heap := h' } := I1.kept (t' := s1.toks) hk
        exact ⟨s1.heap.objs.size + 4, [s1.heap.objs.size + 4, s1.heap.objs.size + 2, s1.heap.objs.size + 3, s1.heap.objs.size, s1.heap.objs.size + 1], _, _, H1, rfl, I2, RZ.turn_zipT (PySem.W.ktu_apart s1.heap.objs.size a b (Heap.lt_size ho1) (Heap.lt_size ho2)), ⟨hz, hTI, ⟨_, _, hTO⟩, h1, h2⟩, fresh5, q⟩
/-- such a loop, both of one length -/
theorem for_zipM {K : PySem.W.Frag} {a b : Addr} {xs ys : List V} {g : TG} {tb : TS} {D : Ends} {σ : L2.St} {H : Hp} (hl : xs.length = ys.length) (Pv : Nat → L2.St → Hp → Prop) (h0 : Pv 0 σ H) (hq : ∀ i σ H, Pv i σ H → SqL K H a xs ∧ SqT K H b ys)
    (hs : ∀ (i : Nat) (x y : V) (T : Addr) (σ : L2.St) (H : Hp), xs[i]? = some x → ys[i]? = some y → Pv i σ H → H T = none → g (.ref T) σ (upd H T (.tup [x, y])) fun σ2 H2 => tb { D with nx := Pv (i + 1), ct := Pv (i + 1), bk := D.nx } σ2 H2) (hd : ∀ σ H, Pv xs.length σ H → D.nx σ H) :
    ∃ W : Nat → Nat → L2.St → Hp → Prop, (∃ m, W 0 m σ H) ∧ ∀ i m σ H, W i m σ H →
      ((ItzM K a b).stop i H ∧ D.nx σ H) ∨ ((ItzM K a b).go i H ∧ ∃ N : L2.St → Hp → Prop, (∀ σ' H', N σ' H' → ∃ m', m' < m ∧ W (i + 1) m' σ' H') ∧ ∀ v H', (ItzM K a b).yld i H v H' → g v σ H' fun σ2 H2 => tb { D with nx := N, ct := N, bk := D.nx } σ2 H2) := by
  refine ⟨fun i m σ H => m = xs.length - i ∧ i ≤ xs.length ∧ Pv i σ H, ⟨xs.length, rfl, Nat.zero_le _, h0⟩, ?_⟩
  rintro i m σ H ⟨rfl, hi, p⟩
  obtain ⟨qx, qy⟩ := hq i σ H p
  by_cases hlt : i < xs.length
  · have hlt2 : i < ys.length := by omega
    refine .inr ⟨⟨xs, ys, _, _, qx, qy, List.getElem?_eq_getElem hlt, List.getElem?_eq_getElem hlt2⟩, Pv (i + 1), fun σ' H' p' => ⟨xs.length - (i + 1), by omega, rfl, hlt, p'⟩, fun v H' y => ?_⟩
    obtain ⟨T, x', y', rfl, hT, rfl, f1, f2⟩ := y
    exact hs i x' y' T σ H (f1 xs qx) (f2 ys qy) p hT
  · have e : i = xs.length := by omega
    subst e
    exact .inl ⟨⟨xs, ys, qx, qy, rfl, hl⟩, hd σ H p⟩
end Sv
end
section
set_option Elab.async false
set_option linter.all false
set_option autoImplicit false
/-! M1: the programs, their form as data, the graph, plain Lean. -/
namespace Sv
open PySem

inductive Opd where
  | nm (x : Str)
  | num (i : Int)
  deriving DecidableEq
inductive Bop where
  | plus | less | times
  deriving DecidableEq
inductive Val where
  | as (a : Opd)
  | bin (o : Bop) (a b : Opd)
  deriving DecidableEq
inductive Pk where
  | below | most | is
  deriving DecidableEq
structure Pair where
  k : Pk
  a : Opd
  b : Opd
  deriving DecidableEq
inductive Cnd where
  | pair (p : Pair)
  | not (c : Cnd)
  | bin (all : Bool) (c d : Cnd)
mutual
inductive Stm where
  | set (x : Str) (v : Val)
  | give (a : Opd)
  | skip
  | brk
  | nxt
  | ifs (c : Cnd) (b1 b2 : Blk)
  | while (c : Cnd) (b : Blk)
  | loop (b : Blk)
inductive Blk where
  | nil
  | cons (s : Stm) (b : Blk)
end
inductive Deed where
  | test (p : Pair) (t : Bool)
  | skip
  | set (x : Str) (v : Val)
  | give (a : Opd)
  deriving DecidableEq
structure Edge where
  start : Nat
  deed : Deed
  stop : Nat
  deriving DecidableEq

def Opd.enc : Opd → PyData
  | .nm x => .str x
  | .num i => .int i
def Bop.word : Bop → Str
  | .plus => "plus"
  | .less => "less"
  | .times => "times"
def Val.enc : Val → PyData
  | .as a => .tuple [.str "as", a.enc]
  | .bin o a b => .tuple [.str o.word, a.enc, b.enc]
def Pk.word : Pk → Str
  | .below => "below"
  | .most => "most"
  | .is => "is"
def Pair.enc (p : Pair) : PyData := .tuple [.str p.k.word, p.a.enc, p.b.enc]
def bw : Bool → Str
  | true => "and"
  | false => "or"
def Cnd.enc : Cnd → PyData
  | .pair p => p.enc
  | .not c => .tuple [.str "not", c.enc]
  | .bin k c d => .tuple [.str (bw k), c.enc, d.enc]
mutual
def Stm.enc : Stm → PyData
  | .set x v => .tuple [.str "set", .str x, v.enc]
  | .give a => .tuple [.str "give", a.enc]
  | .skip => .tuple [.str "skip"]
  | .brk => .tuple [.str "break"]
  | .nxt => .tuple [.str "next"]
  | .ifs c b1 b2 => .tuple [.str "if", c.enc, .tuple b1.encs, .tuple b2.encs]
  | .while c b => .tuple [.str "while", c.enc, .tuple b.encs]
  | .loop b => .tuple [.str "loop", .tuple b.encs]
def Blk.encs : Blk → List PyData
  | .nil => []
  | .cons s b => s.enc :: b.encs
end
def Blk.enc (b : Blk) : PyData := .tuple b.encs
def Deed.enc : Deed → PyData
  | .test p t => .tuple [.str "test", p.enc, .bool t]
  | .skip => .tuple [.str "skip"]
  | .set x v => .tuple [.str "set", .str x, v.enc]
  | .give a => .tuple [.str "give", a.enc]
def Edge.enc (e : Edge) : PyData := .tuple [.int e.start, e.deed.enc, .int e.stop]

def Blk.len : Blk → Nat
  | .nil => 0
  | .cons _ b => b.len + 1
theorem Blk.encs_len : ∀ b : Blk, b.encs.length = b.len
  | .nil => rfl
  | .cons s b => by rw [Blk.encs, List.length_cons, Blk.encs_len b, Blk.len]

/-! ### the graph -/
def standC : Cnd → (s y n m : Nat) → Nat × List Edge
  | .pair p, s, y, n, m => (m, [⟨s, .test p true, y⟩, ⟨s, .test p false, n⟩])
  | .not c, s, y, n, m => standC c s n y m
  | .bin true c d, s, y, n, m =>
    let r := standC c s m n (m + 1)
    let q := standC d m y n r.1
    (q.1, r.2 ++ q.2)
  | .bin false c d, s, y, n, m =>
    let r := standC c s y m (m + 1)
    let q := standC d m y n r.1
    (q.1, r.2 ++ q.2)
mutual
def standS : Stm → (s e o a m : Nat) → Nat × List Edge
  | .set x v, s, e, _, _, m => (m, [⟨s, .set x v, e⟩])
  | .give v, s, _, _, _, m => (m, [⟨s, .give v, 1⟩])
  | .skip, s, e, _, _, m => (m, [⟨s, .skip, e⟩])
  | .brk, s, _, o, _, m => (m, [⟨s, .skip, o⟩])
  | .nxt, s, _, _, a, m => (m, [⟨s, .skip, a⟩])
  | .ifs c b1 b2, s, e, o, a, m =>
    let r := standC c s m (m + 1) (m + 2)
    let q := standB b1 m e o a r.1
    let t := standB b2 (m + 1) e o a q.1
    (t.1, r.2 ++ q.2 ++ t.2)
  | .while c b, s, e, _, _, m =>
    let r := standC c s m e (m + 1)
    let q := standB b m s e s r.1
    (q.1, r.2 ++ q.2)
  | .loop b, s, e, _, _, m => standB b s s e s m
def standB : Blk → (s e o a m : Nat) → Nat × List Edge
  | .nil, s, e, _, _, m => (m, [⟨s, .skip, e⟩])
  | .cons st .nil, s, e, o, a, m => standS st s e o a m
  | .cons st (.cons st2 b), s, e, o, a, m =>
    let r := standS st s m o a (m + 1)
    let q := standB (.cons st2 b) m e o a r.1
    (q.1, r.2 ++ q.2)
end
def graphOf (b : Blk) : Nat × List Edge :=
  let r := standB b 0 2 0 0 3
  (r.1, r.2 ++ [⟨2, .give (.num 0), 1⟩])

/-! ### equality of deeds as data -/
theorem eqv_str (x y : Str) : PyData.eqv (.str x) (.str y) = decide (x = y) := by
  simp only [PyData.eqv]
  rw [Bool.eq_iff_iff, beq_iff_eq, decide_eq_true_eq]
theorem eqv_int (x y : Int) : PyData.eqv (.int x) (.int y) = decide (x = y) := by
  simp only [PyData.eqv]
  rw [Bool.eq_iff_iff, beq_iff_eq, decide_eq_true_eq]
theorem eqv_bool (x y : Bool) : PyData.eqv (.bool x) (.bool y) = decide (x = y) := by
  simp only [PyData.eqv]
  rw [Bool.eq_iff_iff, beq_iff_eq, decide_eq_true_eq]
theorem eqv_tup (xs ys : List PyData) : PyData.eqv (.tuple xs) (.tuple ys) = PyData.eqvAll xs ys := by simp only [PyData.eqv]
theorem eqvAll_cons (x y : PyData) (xs ys : List PyData) : PyData.eqvAll (x :: xs) (y :: ys) = (PyData.eqv x y && PyData.eqvAll xs ys) := by simp only [PyData.eqvAll]
theorem eqvAll_nil : PyData.eqvAll [] [] = true := by simp only [PyData.eqvAll]
theorem eqvAll_nc (x : PyData) (xs : List PyData) : PyData.eqvAll [] (x :: xs) = false := by simp only [PyData.eqvAll]
theorem eqvAll_cn (x : PyData) (xs : List PyData) : PyData.eqvAll (x :: xs) [] = false := by simp only [PyData.eqvAll]
theorem Opd.eqv : ∀ a b : Opd, PyData.eqv a.enc b.enc = decide (a = b)
  | .nm x, .nm y => by rw [Opd.enc, Opd.enc, eqv_str]; exact decide_eq_decide.mpr (by rw [Opd.nm.injEq])
  | .num i, .num j => by rw [Opd.enc, Opd.enc, eqv_int]; exact decide_eq_decide.mpr (by rw [Opd.num.injEq])
  | .nm x, .num j => by simp [Opd.enc, PyData.eqv]
  | .num i, .nm y => by simp [Opd.enc, PyData.eqv]
theorem bop_word : ∀ a b : Bop, decide (a.word = b.word) = decide (a = b) := by
  intro a b; cases a <;> cases b <;> decide +kernel
theorem bop_as : ∀ a : Bop, decide (a.word = ("as" : Str)) = false := by
  intro a; cases a <;> decide +kernel
theorem as_bop : ∀ a : Bop, decide (("as" : Str) = a.word) = false := by
  intro a; cases a <;> decide +kernel
theorem pk_word : ∀ a b : Pk, decide (a.word = b.word) = decide (a = b) := by
  intro a b; cases a <;> cases b <;> decide +kernel
theorem Val.eqv : ∀ a b : Val, PyData.eqv a.enc b.enc = decide (a = b)
  | .as a, .as b => by
    rw [Val.enc, Val.enc, eqv_tup, eqvAll_cons, eqvAll_cons, eqvAll_nil, eqv_str, Opd.eqv, Bool.and_true, decide_eq_true rfl, Bool.true_and]
    exact decide_eq_decide.mpr (by rw [Val.as.injEq])
  | .as a, .bin o b c => by
    rw [Val.enc, Val.enc, eqv_tup, eqvAll_cons, eqv_str, as_bop, Bool.false_and]
    simp
  | .bin o b c, .as a => by
    rw [Val.enc, Val.enc, eqv_tup, eqvAll_cons, eqv_str, bop_as, Bool.false_and]
    simp
  | .bin o a b, .bin q c d => by
    rw [Val.enc, Val.enc, eqv_tup, eqvAll_cons, eqvAll_cons, eqvAll_cons, eqvAll_nil, eqv_str, Opd.eqv, Opd.eqv, bop_word, Bool.and_true, ← Bool.decide_and, ← Bool.decide_and]
    exact decide_eq_decide.mpr (by rw [Val.bin.injEq])
theorem Pair.eqv (p q : Pair) : PyData.eqv p.enc q.enc = decide (p = q) := by
  obtain ⟨k, a, b⟩ := p
  obtain ⟨l, c, d⟩ := q
  rw [Pair.enc, Pair.enc, eqv_tup, eqvAll_cons, eqvAll_cons, eqvAll_cons, eqvAll_nil, eqv_str, Opd.eqv, Opd.eqv, pk_word, Bool.and_true, ← Bool.decide_and, ← Bool.decide_and]
  exact decide_eq_decide.mpr (by rw [Pair.mk.injEq])
theorem Deed.eqv : ∀ a b : Deed, PyData.eqv a.enc b.enc = decide (a = b)
  | .test p t, .test q u => by
    rw [Deed.enc, Deed.enc, eqv_tup, eqvAll_cons, eqvAll_cons, eqvAll_cons, eqvAll_nil, eqv_str, Pair.eqv, eqv_bool, Bool.and_true, decide_eq_true rfl, Bool.true_and, ← Bool.decide_and]
    exact decide_eq_decide.mpr (by rw [Deed.test.injEq])
  | .skip, .skip => by
    rw [Deed.enc, eqv_tup, eqvAll_cons, eqvAll_nil, eqv_str, Bool.and_true]; simp
  | .set x v, .set y u => by
    rw [Deed.enc, Deed.enc, eqv_tup, eqvAll_cons, eqvAll_cons, eqvAll_cons, eqvAll_nil, eqv_str, eqv_str, Val.eqv, Bool.and_true, decide_eq_true rfl, Bool.true_and, ← Bool.decide_and]
    exact decide_eq_decide.mpr (by rw [Deed.set.injEq])
  | .give a, .give b => by
    rw [Deed.enc, Deed.enc, eqv_tup, eqvAll_cons, eqvAll_cons, eqvAll_nil, eqv_str, Opd.eqv, Bool.and_true, decide_eq_true rfl, Bool.true_and]
    exact decide_eq_decide.mpr (by rw [Deed.give.injEq])
  | .test p t, .skip | .test p t, .set .. | .test p t, .give .. | .skip, .test .. | .skip, .set .. | .skip, .give .. | .set .., .test .. | .set .., .skip | .set .., .give .. | .give .., .test .. | .give .., .skip | .give .., .set .. => by
    rw [Deed.enc, Deed.enc, eqv_tup, eqvAll_cons, eqv_str, decide_eq_false (by decide +kernel), Bool.false_and]
    exact (decide_eq_false (fun q => nomatch q)).symm

/-! ### the programs that are drawn -/
def Opd.ok (N : List Str) : Opd → Prop
  | .nm x => x ∈ N
  | .num i => -4 ≤ i ∧ i ≤ 4
def Opd.isNum : Opd → Prop
  | .nm _ => False
  | .num i => -3 ≤ i ∧ i ≤ 3
def Val.ok (N : List Str) : Val → Prop
  | .as a => a.ok N
  | .bin .times a b => a.ok N ∧ b.isNum
  | .bin .plus a b => a.ok N ∧ b.ok N
  | .bin .less a b => a.ok N ∧ b.ok N
def Pair.ok (N : List Str) (p : Pair) : Prop := p.a.ok N ∧ p.b.ok N
def Cnd.ok (N : List Str) : Cnd → Prop
  | .pair p => p.ok N
  | .not c => c.ok N
  | .bin _ c d => c.ok N ∧ d.ok N
def Cnd.parts : Cnd → Nat
  | .pair _ => 1
  | .not c => c.parts + 1
  | .bin _ c d => c.parts + d.parts + 1
def Cnd.dp : Cnd → Nat
  | .pair _ => 1
  | .not c => c.dp + 1
  | .bin _ c d => max c.dp d.dp + 1
mutual
/-- the drawn form: names of N, small numbers, conditions of at most 5 parts, break and next in loops alone -/
def Stm.ok (N : List Str) : Bool → Stm → Prop
  | _, .set x v => x ∈ N ∧ v.ok N
  | _, .give a => a.ok N
  | _, .skip => True
  | l, .brk => l = true
  | l, .nxt => l = true
  | l, .ifs c b1 b2 => c.ok N ∧ c.parts ≤ 5 ∧ Blk.ok N l b1 ∧ Blk.ok N l b2
  | _, .while c b => c.ok N ∧ c.parts ≤ 5 ∧ Blk.ok N true b
  | _, .loop b => Blk.ok N true b
def Blk.ok (N : List Str) : Bool → Blk → Prop
  | _, .nil => True
  | l, .cons s b => Stm.ok N l s ∧ Blk.ok N l b
end
mutual
def Stm.size : Stm → Nat
  | .ifs _ b1 b2 => b1.size + b2.size + 1
  | .while _ b => b.size + 1
  | .loop b => b.size + 1
  | .set _ _ => 1
  | .give _ => 1
  | .skip => 1
  | .brk => 1
  | .nxt => 1
def Blk.size : Blk → Nat
  | .nil => 0
  | .cons s b => s.size + b.size
end
mutual
/-- how deep the calls go -/
def Stm.dp : Stm → Nat
  | .ifs c b1 b2 => max c.dp (max b1.dp b2.dp) + 1
  | .while c b => max c.dp b.dp + 1
  | .loop b => b.dp + 1
  | .set _ _ => 2
  | .give _ => 2
  | .skip => 2
  | .brk => 2
  | .nxt => 2
def Blk.dp : Blk → Nat
  | .nil => 1
  | .cons s b => max s.dp b.dp + 1
end
end Sv
end
section
set_option Elab.async false
set_option linter.all false
set_option autoImplicit false
/-! M2: the runs, the paths, the counts, plain Lean. -/
namespace Sv
open PySem

abbrev En := List (Str × Int)
def En.get? (e : En) (x : Str) : Option Int := (e.find? fun kv => decide (kv.1 = x)).map (·.2)
def En.get (e : En) (x : Str) : Int := (En.get? e x).getD 0
def En.put (e : En) (x : Str) (i : Int) : En :=
  if (e.any fun kv => decide (kv.1 = x)) = true then e.map (fun kv => if kv.1 = x then (kv.1, i) else kv) else e ++ [(x, i)]
def Opd.val (e : En) : Opd → Int
  | .nm x => En.get e x
  | .num i => i
def Val.eval (e : En) : Val → Int
  | .as a => a.val e
  | .bin .plus a b => a.val e + b.val e
  | .bin .less a b => a.val e - b.val e
  | .bin .times a b => a.val e * b.val e
def Pair.holds (e : En) (p : Pair) : Bool := match p.k with
  | .below => decide (p.a.val e < p.b.val e)
  | .most => decide (p.a.val e ≤ p.b.val e)
  | .is => decide (p.a.val e = p.b.val e)
def Deed.run (e : En) : Deed → En
  | .set x v => En.put e x (v.eval e)
  | _ => e
def Deed.open (e : En) : Deed → Bool
  | .test p t => decide (p.holds e = t)
  | _ => true

/-! ### the law's own run -/
structure Rs where
  left : Nat
  deeds : List Deed
  env : En
  val : Option Int
inductive Mode where
  | on | cut | give | brk | nxt
  deriving DecidableEq
def turn (d : Deed) (r : Rs) : Bool × Rs := if r.left = 0 then (false, r) else (true, { r with left := r.left - 1, deeds := r.deeds ++ [d] })
def goC : Cnd → Rs → Option Bool × Rs
  | .pair p, r => match turn (.test p (p.holds r.env)) r with
    | (true, q) => (some (p.holds r.env), q)
    | (false, q) => (none, q)
  | .not c, r => match goC c r with
    | (none, q) => (none, q)
    | (some b, q) => (some (!b), q)
  | .bin k c d, r => match goC c r with
    | (none, q) => (none, q)
    | (some b, q) => if b = k then goC d q else (some b, q)
def rounds (t : Rs → Option Bool × Rs) (bd : Rs → Mode × Rs) : Nat → Rs → Mode × Rs
  | 0, r => (.cut, r)
  | n + 1, r => match t r with
    | (none, r1) => (.cut, r1)
    | (some false, r1) => (.on, r1)
    | (some true, r1) => match bd r1 with
      | (.give, r2) => (.give, r2)
      | (.cut, r2) => (.cut, r2)
      | (.brk, r2) => (.on, r2)
      | (.on, r2) => rounds t bd n r2
      | (.nxt, r2) => rounds t bd n r2
def plainM (d : Deed) (md : Mode) (r : Rs) : Mode × Rs := match turn d r with
  | (true, q) => (md, q)
  | (false, q) => (.cut, q)
def onBlk (b : Blk) (f : Rs → Mode × Rs) (r : Rs) : Mode × Rs := match b with
  | .nil => plainM .skip .on r
  | .cons _ _ => f r
mutual
def goS : Stm → Rs → Mode × Rs
  | .set x v, r => match turn (.set x v) r with
    | (true, q) => (.on, { q with env := En.put q.env x (v.eval q.env) })
    | (false, q) => (.cut, q)
  | .give a, r => match turn (.give a) r with
    | (true, q) => (.give, { q with val := some (a.val q.env) })
    | (false, q) => (.cut, q)
  | .skip, r => plainM .skip .on r
  | .brk, r => plainM .skip .brk r
  | .nxt, r => plainM .skip .nxt r
  | .ifs c b1 b2, r => match goC c r with
    | (none, q) => (.cut, q)
    | (some true, q) => onBlk b1 (fun r => goL b1 r) q
    | (some false, q) => onBlk b2 (fun r => goL b2 r) q
  | .while c b, r => rounds (goC c) (onBlk b fun r => goL b r) (r.left + 1) r
  | .loop b, r => rounds (fun r => (some true, r)) (onBlk b fun r => goL b r) (r.left + 1) r
def goL : Blk → Rs → Mode × Rs
  | .nil, r => (.on, r)
  | .cons s b, r => match goS s r with
    | (.on, q) => goL b q
    | (.cut, q) => (.cut, q)
    | (.give, q) => (.give, q)
    | (.brk, q) => (.brk, q)
    | (.nxt, q) => (.nxt, q)
end
def goB (b : Blk) (r : Rs) : Mode × Rs := onBlk b (goL b) r
def runOf (b : Blk) (env : En) (turns : Nat) : Rs := match goB b ⟨turns, [], env, none⟩ with
  | (.on, q) => (match turn (.give (.num 0)) q with
    | (true, q') => { q' with val := some 0 }
    | (false, q') => q')
  | (_, q) => q

/-! ### paths -/
inductive Path (es : List Edge) : Nat → En → List Deed → Nat → En → Prop
  | nil (p : Nat) (env : En) : Path es p env [] p env
  | cons {e : Edge} {env env' : En} {ds : List Deed} {q : Nat} : e ∈ es → e.deed.open env = true → Path es e.stop (e.deed.run env) ds q env' → Path es e.start env (e.deed :: ds) q env'
theorem Path.app {es : List Edge} {p q x : Nat} {e1 e2 e3 : En} {ds ds' : List Deed} (h : Path es p e1 ds q e2) (h' : Path es q e2 ds' x e3) : Path es p e1 (ds ++ ds') x e3 := by
  induction h with
  | nil p env => exact h'
  | cons a b c ih => exact .cons a b (ih h')
theorem Path.one {es : List Edge} {e : Edge} {env : En} (h : e ∈ es) (ho : e.deed.open env = true) : Path es e.start env [e.deed] e.stop (e.deed.run env) := .cons h ho (.nil _ _)

/-- where one stands, by the mode -/
def At (e o a p : Nat) (left : Nat) : Mode → Prop
  | .on => p = e
  | .brk => p = o
  | .nxt => p = a
  | .give => p = 1
  | .cut => left = 0
def Vl (v v' : Option Int) : Mode → Prop
  | .give => v'.isSome = true
  | _ => v' = v
def Res (es : List Edge) (s e o a : Nat) (r : Rs) (x : Mode × Rs) : Prop :=
  ∃ ds p, Path es s r.env ds p x.2.env ∧ x.2.deeds = r.deeds ++ ds ∧ ds.length + x.2.left = r.left ∧ At e o a p x.2.left x.1 ∧ Vl r.val x.2.val x.1 ∧ (x.1 ≠ .cut → ds ≠ [])
def ResC (es : List Edge) (s y n : Nat) (r : Rs) (x : Option Bool × Rs) : Prop :=
  ∃ ds p, Path es s r.env ds p x.2.env ∧ x.2.deeds = r.deeds ++ ds ∧ ds.length + x.2.left = r.left ∧ x.2.val = r.val ∧
    match x.1 with
    | none => x.2.left = 0
    | some b => p = (if b = true then y else n) ∧ ds ≠ []

theorem turn_yes {d : Deed} {r : Rs} (h : r.left ≠ 0) : turn d r = (true, { r with left := r.left - 1, deeds := r.deeds ++ [d] }) := if_neg h
theorem turn_no {d : Deed} {r : Rs} (h : r.left = 0) : turn d r = (false, r) := if_pos h
theorem goC_res {es : List Edge} : ∀ (c : Cnd) (s y n m : Nat) (r : Rs), (∀ x ∈ (standC c s y n m).2, x ∈ es) → ResC es s y n r (goC c r)
  | .pair p, s, y, n, m, r, h => by
    by_cases z : r.left = 0
    · rw [goC, turn_no z]
      exact ⟨[], s, .nil _ _, (List.append_nil _).symm, by simp, rfl, z⟩
    · rw [goC, turn_yes z]
      cases q : p.holds r.env with
      | true =>
        refine ⟨[.test p true], y, Path.one (e := ⟨s, .test p true, y⟩) (h _ (by simp [standC])) (by simp [Deed.open, q]), rfl, ?_, rfl, rfl, by simp⟩
        show 1 + (r.left - 1) = r.left
        omega
      | false =>
        refine ⟨[.test p false], n, Path.one (e := ⟨s, .test p false, n⟩) (h _ (by simp [standC])) (by simp [Deed.open, q]), rfl, ?_, rfl, rfl, by simp⟩
        show 1 + (r.left - 1) = r.left
        omega
  | .not c, s, y, n, m, r, h => by
    obtain ⟨ds, p, h1, h2, h3, h4, h5⟩ := goC_res c s n y m r h
    rw [goC]
    generalize goC c r = g at *
    obtain ⟨gb, q⟩ := g
    cases gb with
    | none => exact ⟨ds, p, h1, h2, h3, h4, h5⟩
    | some b =>
      refine ⟨ds, p, h1, h2, h3, h4, ?_, h5.2⟩
      rw [h5.1]
      cases b <;> rfl
  | .bin k c d, s, y, n, m, r, h => by
    cases k with
    | true =>
      have hc : ∀ x ∈ (standC c s m n (m + 1)).2, x ∈ es := fun x hx => h x (List.mem_append.mpr (.inl hx))
      have hd : ∀ x ∈ (standC d m y n (standC c s m n (m + 1)).1).2, x ∈ es := fun x hx => h x (List.mem_append.mpr (.inr hx))
      obtain ⟨ds, p, h1, h2, h3, h4, h5⟩ := goC_res c s m n (m + 1) r hc
      rw [goC]
      generalize goC c r = g at *
      obtain ⟨gb, q⟩ := g
      cases gb with
      | none => exact ⟨ds, p, h1, h2, h3, h4, h5⟩
      | some b =>
        cases b with
        | false => exact ⟨ds, p, h1, h2, h3, h4, h5⟩
        | true =>
          obtain ⟨ds', p', g1, g2, g3, g4, g5⟩ := goC_res d m y n _ q hd
          have e : p = m := h5.1
          subst e
          refine ⟨ds ++ ds', p', h1.app g1, by show (goC d q).2.deeds = _; rw [g2, h2, List.append_assoc], by show _ + (goC d q).2.left = _; rw [List.length_append]; simp only at h3; omega, g4.trans h4, ?_⟩
          show (match (goC d q).1 with | none => (goC d q).2.left = 0 | some b => p' = (if b = true then y else n) ∧ ds ++ ds' ≠ [])
          revert g5
          cases (goC d q).1 with
          | none => exact fun g5 => g5
          | some b => exact fun g5 => ⟨g5.1, fun z => g5.2 (List.append_eq_nil_iff.mp z).2⟩
    | false =>
      have hc : ∀ x ∈ (standC c s y m (m + 1)).2, x ∈ es := fun x hx => h x (List.mem_append.mpr (.inl hx))
      have hd : ∀ x ∈ (standC d m y n (standC c s y m (m + 1)).1).2, x ∈ es := fun x hx => h x (List.mem_append.mpr (.inr hx))
      obtain ⟨ds, p, h1, h2, h3, h4, h5⟩ := goC_res c s y m (m + 1) r hc
      rw [goC]
      generalize goC c r = g at *
      obtain ⟨gb, q⟩ := g
      cases gb with
      | none => exact ⟨ds, p, h1, h2, h3, h4, h5⟩
      | some b =>
        cases b with
        | true => exact ⟨ds, p, h1, h2, h3, h4, h5⟩
        | false =>
          obtain ⟨ds', p', g1, g2, g3, g4, g5⟩ := goC_res d m y n _ q hd
          have e : p = m := h5.1
          subst e
          refine ⟨ds ++ ds', p', h1.app g1, by show (goC d q).2.deeds = _; rw [g2, h2, List.append_assoc], by show _ + (goC d q).2.left = _; rw [List.length_append]; simp only at h3; omega, g4.trans h4, ?_⟩
          show (match (goC d q).1 with | none => (goC d q).2.left = 0 | some b => p' = (if b = true then y else n) ∧ ds ++ ds' ≠ [])
          revert g5
          cases (goC d q).1 with
          | none => exact fun g5 => g5
          | some b => exact fun g5 => ⟨g5.1, fun z => g5.2 (List.append_eq_nil_iff.mp z).2⟩

theorem plain_res {es : List Edge} {s e o a t : Nat} {r : Rs} {d : Deed} {md : Mode} (h : (⟨s, d, t⟩ : Edge) ∈ es) (ho : d.open r.env = true) (hr : d.run r.env = r.env) (hm : md = .on ∧ t = e ∨ md = .brk ∧ t = o ∨ md = .nxt ∧ t = a) : Res es s e o a r (plainM d md r) := by
  unfold plainM
  by_cases z : r.left = 0
  · rw [turn_no z]
    exact ⟨[], s, .nil _ _, (List.append_nil _).symm, by simp, z, rfl, fun c => (c rfl).elim⟩
  · rw [turn_yes z]
    have w := Path.one (es := es) (e := ⟨s, d, t⟩) (env := r.env) h ho
    have w' : Path es s r.env [d] t r.env := by
      have := w
      simp only [hr] at this
      exact this
    have hl : [d].length + (r.left - 1) = r.left := by
      show 1 + (r.left - 1) = r.left
      omega
    rcases hm with ⟨rfl, rfl⟩ | ⟨rfl, rfl⟩ | ⟨rfl, rfl⟩ <;> exact ⟨[d], t, w', rfl, hl, rfl, rfl, by simp⟩
/-- after ds one goes on with x -/
theorem Res.pre {es : List Edge} {s s' e o a : Nat} {r q : Rs} {x : Mode × Rs} {ds : List Deed} (h1 : Path es s r.env ds s' q.env) (h2 : q.deeds = r.deeds ++ ds) (h3 : ds.length + q.left = r.left) (h4 : q.val = r.val)
    (hx : Res es s' e o a q x) : Res es s e o a r x := by
  obtain ⟨ds', p, g1, g2, g3, g4, g5, g6⟩ := hx
  refine ⟨ds ++ ds', p, h1.app g1, by rw [g2, h2, List.append_assoc], by rw [List.length_append]; omega, g4, by rw [← h4]; exact g5, fun c z => g6 c (List.append_eq_nil_iff.mp z).2⟩
theorem rounds_res {es : List Edge} {s s1 e o a : Nat} {t : Rs → Option Bool × Rs} {bd : Rs → Mode × Rs} 
    (ht : ∀ r, ∃ ds p, Path es s r.env ds p (t r).2.env ∧ (t r).2.deeds = r.deeds ++ ds ∧ ds.length + (t r).2.left = r.left ∧ (t r).2.val = r.val ∧ match (t r).1 with | none => (t r).2.left = 0 | some b => p = (if b = true then s1 else e) ∧ (b = false → ds ≠ []))
    (hb : ∀ r, Res es s1 s e s r (bd r)) : ∀ (n : Nat) (r : Rs), r.left < n → Res es s e o a r (rounds t bd n r)
  | 0, r, h => absurd h (Nat.not_lt_zero _)
  | n + 1, r, h => by
    obtain ⟨ds, p, h1, h2, h3, h4, h5⟩ := ht r
    rw [rounds]
    generalize t r = g at *
    obtain ⟨gb, q⟩ := g
    simp only at h1 h2 h3 h4 h5
    cases gb with
    | none => exact ⟨ds, p, h1, h2, h3, h5, h4, fun c => (c rfl).elim⟩
    | some b =>
      cases b with
      | false => exact ⟨ds, p, h1, h2, h3, h5.1, h4, fun _ => h5.2 rfl⟩
      | true =>
        have e1 : p = s1 := h5.1
        subst e1
        have hq := hb q
        show Res es s e o a r (match bd q with
          | (.give, r2) => (.give, r2)
          | (.cut, r2) => (.cut, r2)
          | (.brk, r2) => (.on, r2)
          | (.on, r2) => rounds t bd n r2
          | (.nxt, r2) => rounds t bd n r2)
        obtain ⟨ds', p', g1, g2, g3, g4, g5, g6⟩ := hq
        generalize bd q = y at *
        obtain ⟨md, q2⟩ := y
        simp only at g1 g2 g3 g4 g5 g6
        have w1 := h1.app g1
        have w2 : q2.deeds = r.deeds ++ (ds ++ ds') := by rw [g2, h2, List.append_assoc]
        have w3 : (ds ++ ds').length + q2.left = r.left := by rw [List.length_append]; omega
        have more : md ≠ .cut → 0 < ds'.length := fun c => List.length_pos_iff.mpr (g6 c)
        cases md with
        | give => exact ⟨_, _, w1, w2, w3, g4, g5, fun c z => g6 c (List.append_eq_nil_iff.mp z).2⟩
        | cut => exact ⟨_, _, w1, w2, w3, g4, by rw [← h4]; exact g5, fun c => (c rfl).elim⟩
        | brk => exact ⟨_, _, w1, w2, w3, g4, by rw [← h4]; exact g5, fun _ z => g6 (by decide) (List.append_eq_nil_iff.mp z).2⟩
        | on =>
          have e2 : p' = s := g4
          subst e2
          refine Res.pre w1 w2 w3 (by rw [← h4]; exact g5) (rounds_res ht hb n q2 ?_)
          have := more (by decide)
          omega
        | nxt =>
          have e2 : p' = s := g4
          subst e2
          refine Res.pre w1 w2 w3 (by rw [← h4]; exact g5) (rounds_res ht hb n q2 ?_)
          have := more (by decide)
          omega
theorem goL_one (s : Stm) (r : Rs) : goL (.cons s .nil) r = goS s r := by
  rw [goL]
  generalize goS s r = g
  obtain ⟨md, q⟩ := g
  cases md <;> first | rfl | (show goL .nil q = _; rw [goL])
mutual
theorem goS_res {es : List Edge} : ∀ (st : Stm) (s e o a m : Nat) (r : Rs), (∀ x ∈ (standS st s e o a m).2, x ∈ es) → Res es s e o a r (goS st r)
  | .set x v, s, e, o, a, m, r, h => by
    rw [goS]
    by_cases z : r.left = 0
    · rw [turn_no z]
      exact ⟨[], s, .nil _ _, (List.append_nil _).symm, by simp, z, rfl, fun c => (c rfl).elim⟩
    · rw [turn_yes z]
      refine ⟨[.set x v], e, Path.one (e := ⟨s, .set x v, e⟩) (h _ (by simp [standS])) rfl, rfl, ?_, rfl, rfl, by simp⟩
      show 1 + (r.left - 1) = r.left
      omega
  | .give v, s, e, o, a, m, r, h => by
    rw [goS]
    by_cases z : r.left = 0
    · rw [turn_no z]
      exact ⟨[], s, .nil _ _, (List.append_nil _).symm, by simp, z, rfl, fun c => (c rfl).elim⟩
    · rw [turn_yes z]
      refine ⟨[.give v], 1, Path.one (e := ⟨s, .give v, 1⟩) (h _ (by simp [standS])) rfl, rfl, ?_, rfl, rfl, by simp⟩
      show 1 + (r.left - 1) = r.left
      omega
  | .skip, s, e, o, a, m, r, h => by
    rw [goS]
    exact plain_res (t := e) (h _ (by simp [standS])) rfl rfl (.inl ⟨rfl, rfl⟩)
  | .brk, s, e, o, a, m, r, h => by
    rw [goS]
    exact plain_res (t := o) (h _ (by simp [standS])) rfl rfl (.inr (.inl ⟨rfl, rfl⟩))
  | .nxt, s, e, o, a, m, r, h => by
    rw [goS]
    exact plain_res (t := a) (h _ (by simp [standS])) rfl rfl (.inr (.inr ⟨rfl, rfl⟩))
  | .ifs c b1 b2, s, e, o, a, m, r, h => by
    have hc : ∀ x ∈ (standC c s m (m + 1) (m + 2)).2, x ∈ es := fun x hx => h x (by rw [standS]; simp only [List.mem_append]; exact .inl (.inl hx))
    have h1 : ∀ x ∈ (standB b1 m e o a (standC c s m (m + 1) (m + 2)).1).2, x ∈ es := fun x hx => h x (by rw [standS]; simp only [List.mem_append]; exact .inl (.inr hx))
    have h2 : ∀ x ∈ (standB b2 (m + 1) e o a (standB b1 m e o a (standC c s m (m + 1) (m + 2)).1).1).2, x ∈ es := fun x hx => h x (by rw [standS]; simp only [List.mem_append]; exact .inr hx)
    obtain ⟨ds, p, g1, g2, g3, g4, g5⟩ := goC_res c s m (m + 1) (m + 2) r hc
    rw [goS]
    generalize goC c r = g at *
    obtain ⟨gb, q⟩ := g
    simp only at g1 g2 g3 g4 g5
    cases gb with
    | none => exact ⟨ds, p, g1, g2, g3, g5, g4, fun c => (c rfl).elim⟩
    | some b =>
      cases b with
      | true =>
        have e1 : p = m := g5.1
        subst e1
        exact Res.pre g1 g2 g3 g4 (goB_res b1 _ e o a _ q h1)
      | false =>
        have e1 : p = m + 1 := g5.1
        subst e1
        exact Res.pre g1 g2 g3 g4 (goB_res b2 _ e o a _ q h2)
  | .while c b, s, e, o, a, m, r, h => by
    have hc : ∀ x ∈ (standC c s m e (m + 1)).2, x ∈ es := fun x hx => h x (by rw [standS]; simp only [List.mem_append]; exact .inl hx)
    have h1 : ∀ x ∈ (standB b m s e s (standC c s m e (m + 1)).1).2, x ∈ es := fun x hx => h x (by rw [standS]; simp only [List.mem_append]; exact .inr hx)
    rw [goS]
    refine rounds_res (s1 := m) (fun r => ?_) (fun r => goB_res b m s e s _ r h1) _ r (Nat.lt_succ_self _)
    obtain ⟨ds, p, g1, g2, g3, g4, g5⟩ := goC_res c s m e (m + 1) r hc
    refine ⟨ds, p, g1, g2, g3, g4, ?_⟩
    revert g5
    cases (goC c r).1 with
    | none => exact fun g => g
    | some b => exact fun g => ⟨g.1, fun _ => g.2⟩
  | .loop b, s, e, o, a, m, r, h => by
    rw [goS]
    refine rounds_res (s1 := s) (fun r => show ∃ ds p, Path es s r.env ds p r.env ∧ r.deeds = r.deeds ++ ds ∧ ds.length + r.left = r.left ∧ r.val = r.val ∧ (p = s ∧ (true = false → ds ≠ [])) from ⟨[], s, .nil _ _, (List.append_nil _).symm, by simp, rfl, ⟨rfl, fun c => nomatch c⟩⟩) (fun r => goB_res b s s e s _ r h) _ r (Nat.lt_succ_self _)
theorem goB_res {es : List Edge} : ∀ (b : Blk) (s e o a m : Nat) (r : Rs), (∀ x ∈ (standB b s e o a m).2, x ∈ es) → Res es s e o a r (onBlk b (fun r => goL b r) r)
  | .nil, s, e, o, a, m, r, h => plain_res (t := e) (h _ (by simp [standB])) rfl rfl (.inl ⟨rfl, rfl⟩)
  | .cons st .nil, s, e, o, a, m, r, h => by
    show Res es s e o a r (goL (.cons st .nil) r)
    rw [goL_one]
    exact goS_res st s e o a m r h
  | .cons st (.cons st2 b), s, e, o, a, m, r, h => by
    have h1 : ∀ x ∈ (standS st s m o a (m + 1)).2, x ∈ es := fun x hx => h x (by rw [standB]; simp only [List.mem_append]; exact .inl hx)
    have h2 : ∀ x ∈ (standB (.cons st2 b) m e o a (standS st s m o a (m + 1)).1).2, x ∈ es := fun x hx => h x (by rw [standB]; simp only [List.mem_append]; exact .inr hx)
    obtain ⟨ds, p, g1, g2, g3, g4, g5, g6⟩ := goS_res st s m o a (m + 1) r h1
    show Res es s e o a r (goL (.cons st (.cons st2 b)) r)
    rw [goL]
    generalize goS st r = g at *
    obtain ⟨md, q⟩ := g
    simp only at g1 g2 g3 g4 g5 g6
    cases md with
    | on =>
      have e1 : p = m := g4
      subst e1
      exact Res.pre g1 g2 g3 g5 (goB_res (.cons st2 b) _ e o a _ q h2)
    | cut => exact ⟨_, _, g1, g2, g3, g4, g5, g6⟩
    | give => exact ⟨_, _, g1, g2, g3, g4, g5, g6⟩
    | brk => exact ⟨_, _, g1, g2, g3, g4, g5, g6⟩
    | nxt => exact ⟨_, _, g1, g2, g3, g4, g5, g6⟩
end

theorem cut_md : Mode.cut ≠ .brk ∧ Mode.cut ≠ .nxt := by decide
theorem on_md : Mode.on ≠ .brk ∧ Mode.on ≠ .nxt := by decide
theorem give_md : Mode.give ≠ .brk ∧ Mode.give ≠ .nxt := by decide
/-! ### no break, no next behind a block that stands in no loop -/
theorem rounds_md (t : Rs → Option Bool × Rs) (bd : Rs → Mode × Rs) : ∀ (n : Nat) (r : Rs), (rounds t bd n r).1 ≠ .brk ∧ (rounds t bd n r).1 ≠ .nxt
  | 0, r => by rw [rounds]; exact cut_md
  | n + 1, r => by
    rw [rounds]
    generalize t r = g
    obtain ⟨gb, q⟩ := g
    cases gb with
    | none => first | exact cut_md | exact on_md | exact give_md
    | some b =>
      cases b with
      | false => first | exact cut_md | exact on_md | exact give_md
      | true =>
        simp only
        generalize bd q = y
        obtain ⟨md, q2⟩ := y
        cases md with
        | on => exact rounds_md t bd n q2
        | nxt => exact rounds_md t bd n q2
        | _ => first | exact cut_md | exact on_md | exact give_md
mutual
theorem goS_md {N : List Str} : ∀ (st : Stm) (r : Rs), st.ok N false → (goS st r).1 ≠ .brk ∧ (goS st r).1 ≠ .nxt
  | .set x v, r, h => by
    rw [goS]
    cases turn (.set x v) r with
    | mk b q => cases b <;> first | exact cut_md | exact on_md | exact give_md
  | .give a, r, h => by
    rw [goS]
    cases turn (.give a) r with
    | mk b q => cases b <;> first | exact cut_md | exact on_md | exact give_md
  | .skip, r, h => by
    rw [goS, plainM]
    cases turn .skip r with
    | mk b q => cases b <;> first | exact cut_md | exact on_md | exact give_md
  | .brk, r, h => by simp [Stm.ok] at h
  | .nxt, r, h => by simp [Stm.ok] at h
  | .ifs c b1 b2, r, h => by
    rw [Stm.ok] at h
    rw [goS]
    generalize goC c r = g
    obtain ⟨gb, q⟩ := g
    cases gb with
    | none => first | exact cut_md | exact on_md | exact give_md
    | some b =>
      cases b with
      | true => exact goB_md b1 q h.2.2.1
      | false => exact goB_md b2 q h.2.2.2
  | .while c b, r, h => by
    rw [goS]
    exact rounds_md _ _ _ _
  | .loop b, r, h => by
    rw [goS]
    exact rounds_md _ _ _ _
theorem goB_md {N : List Str} : ∀ (b : Blk) (r : Rs), b.ok N false → (onBlk b (fun r => goL b r) r).1 ≠ .brk ∧ (onBlk b (fun r => goL b r) r).1 ≠ .nxt
  | .nil, r, h => by
    show (plainM .skip .on r).1 ≠ .brk ∧ (plainM .skip .on r).1 ≠ .nxt
    rw [plainM]
    cases turn .skip r with
    | mk b q => cases b <;> first | exact cut_md | exact on_md | exact give_md
  | .cons st .nil, r, h => by
    show (goL (.cons st .nil) r).1 ≠ .brk ∧ (goL (.cons st .nil) r).1 ≠ .nxt
    rw [goL_one]
    rw [Blk.ok] at h
    exact goS_md st r h.1
  | .cons st (.cons st2 b), r, h => by
    rw [Blk.ok] at h
    show (goL (.cons st (.cons st2 b)) r).1 ≠ .brk ∧ (goL (.cons st (.cons st2 b)) r).1 ≠ .nxt
    rw [goL]
    have z := goS_md st r h.1
    generalize goS st r = g at *
    obtain ⟨md, q⟩ := g
    cases md with
    | on => exact goB_md (.cons st2 b) q h.2
    | cut => first | exact cut_md | exact on_md | exact give_md
    | give => first | exact cut_md | exact on_md | exact give_md
    | brk => exact (z.1 rfl).elim
    | nxt => exact (z.2 rfl).elim
end
end Sv
end
section
set_option Elab.async false
set_option linter.all false
set_option autoImplicit false
/-! M3: one edge for each deed; the counts; the flows, plain Lean. -/
namespace Sv
open PySem

def opp : Deed → Deed → Prop
  | .test p t, .test q u => p = q ∧ u = !t
  | _, _ => False
def Good (es : List Edge) : Prop := ∀ e ∈ es, ∀ e' ∈ es, e.start = e'.start → e = e' ∨ opp e.deed e'.deed
def InR (s lo hi p : Nat) : Prop := p = s ∨ (lo ≤ p ∧ p < hi)
/-- what a laid part is like -/
def Laid (s m : Nat) (r : Nat × List Edge) : Prop := m ≤ r.1 ∧ (∀ x ∈ r.2, InR s m r.1 x.start) ∧ Good r.2
theorem good_app {l1 l2 : List Edge} (h1 : Good l1) (h2 : Good l2) (d : ∀ x ∈ l1, ∀ y ∈ l2, x.start ≠ y.start) : Good (l1 ++ l2) := by
  intro e he e' he' hs
  rcases List.mem_append.mp he with a | a
  · rcases List.mem_append.mp he' with b | b
    · exact h1 e a e' b hs
    · exact (d e a e' b hs).elim
  · rcases List.mem_append.mp he' with b | b
    · exact (d e' b e a hs.symm).elim
    · exact h2 e a e' b hs
theorem good_one (e : Edge) : Good [e] := by
  intro a ha b hb _
  rw [List.mem_singleton] at ha hb
  exact .inl (ha.trans hb.symm)
theorem good_pair (s y n : Nat) (p : Pair) : Good [⟨s, .test p true, y⟩, ⟨s, .test p false, n⟩] := by
  intro a ha b hb _
  simp only [List.mem_cons, List.not_mem_nil, or_false] at ha hb
  rcases ha with rfl | rfl <;> rcases hb with rfl | rfl
  · exact .inl rfl
  · exact .inr ⟨rfl, rfl⟩
  · exact .inr ⟨rfl, rfl⟩
  · exact .inl rfl
/-- a part, then another that begins at s2 -/
theorem Laid.app {s s2 m m1 : Nat} {r q : Nat × List Edge} (h1 : Laid s m1 r) (h2 : Laid s2 r.1 q) (hs : s < m) (h12 : m ≤ s2 ∧ s2 < m1) : Laid s m (q.1, r.2 ++ q.2) := by
  obtain ⟨a1, a2, a3⟩ := h1
  obtain ⟨b1, b2, b3⟩ := h2
  refine ⟨by show m ≤ q.1; omega, fun x hx => ?_, good_app a3 b3 fun x hx y hy => ?_⟩
  · rcases List.mem_append.mp hx with z | z
    · rcases a2 x z with c | c
      · exact .inl c
      · exact .inr ⟨by omega, by show _ < q.1; omega⟩
    · rcases b2 x z with c | c
      · exact .inr ⟨by omega, by show _ < q.1; omega⟩
      · exact .inr ⟨by omega, by show _ < q.1; omega⟩
  · rcases a2 x hx with c | c <;> rcases b2 y hy with d | d <;> omega
theorem Laid.one (s m t : Nat) (d : Deed) : Laid s m (m, [⟨s, d, t⟩]) := ⟨Nat.le_refl _, fun x hx => .inl (by rw [List.mem_singleton] at hx; rw [hx]), good_one _⟩
theorem standC_laid : ∀ (c : Cnd) (s y n m : Nat), s < m → Laid s m (standC c s y n m)
  | .pair p, s, y, n, m, h => ⟨Nat.le_refl _, fun x hx => .inl (by
      simp only [standC, List.mem_cons, List.not_mem_nil, or_false] at hx
      rcases hx with rfl | rfl <;> rfl), good_pair s y n p⟩
  | .not c, s, y, n, m, h => standC_laid c s n y m h
  | .bin true c d, s, y, n, m, h => by
    have a := standC_laid c s m n (m + 1) (by omega)
    exact a.app (standC_laid d m y n _ (by have := a.1; omega)) h ⟨Nat.le_refl _, by omega⟩
  | .bin false c d, s, y, n, m, h => by
    have a := standC_laid c s y m (m + 1) (by omega)
    exact a.app (standC_laid d m y n _ (by have := a.1; omega)) h ⟨Nat.le_refl _, by omega⟩
mutual
theorem standS_laid : ∀ (st : Stm) (s e o a m : Nat), s < m → Laid s m (standS st s e o a m)
  | .set x v, s, e, o, a, m, h => by rw [standS]; exact .one ..
  | .give v, s, e, o, a, m, h => by rw [standS]; exact .one ..
  | .skip, s, e, o, a, m, h => by rw [standS]; exact .one ..
  | .brk, s, e, o, a, m, h => by rw [standS]; exact .one ..
  | .nxt, s, e, o, a, m, h => by rw [standS]; exact .one ..
  | .ifs c b1 b2, s, e, o, a, m, h => by
    have k1 := standC_laid c s m (m + 1) (m + 2) (by omega)
    have k2 := standB_laid b1 m e o a (standC c s m (m + 1) (m + 2)).1 (by have := k1.1; omega)
    have k3 := standB_laid b2 (m + 1) e o a (standB b1 m e o a (standC c s m (m + 1) (m + 2)).1).1 (by have := k1.1; have := k2.1; omega)
    rw [standS]
    obtain ⟨a1, a2, a3⟩ := k1
    obtain ⟨b1', b2', b3'⟩ := k2
    obtain ⟨c1, c2, c3⟩ := k3
    refine ⟨by simp only; omega, fun x hx => ?_, good_app (good_app a3 b3' fun x hx y hy => ?_) c3 fun x hx y hy => ?_⟩
    · simp only [List.mem_append] at hx
      simp only
      rcases hx with (z | z) | z
      · rcases a2 x z with d | d
        · exact .inl d
        · exact .inr (by omega)
      · rcases b2' x z with d | d
        · exact .inr (by omega)
        · exact .inr (by omega)
      · rcases c2 x z with d | d
        · exact .inr (by omega)
        · exact .inr (by omega)
    · rcases a2 x hx with d | d <;> rcases b2' y hy with f | f <;> omega
    · rcases List.mem_append.mp hx with z | z
      · rcases a2 x z with d | d <;> rcases c2 y hy with f | f <;> omega
      · rcases b2' x z with d | d <;> rcases c2 y hy with f | f <;> omega
  | .while c b, s, e, o, a, m, h => by
    rw [standS]
    have k1 := standC_laid c s m e (m + 1) (by omega)
    exact k1.app (standB_laid b m s e s _ (by have := k1.1; omega)) h ⟨Nat.le_refl _, by omega⟩
  | .loop b, s, e, o, a, m, h => by
    rw [standS]
    exact standB_laid b s s e s m h
theorem standB_laid : ∀ (b : Blk) (s e o a m : Nat), s < m → Laid s m (standB b s e o a m)
  | .nil, s, e, o, a, m, h => by rw [standB]; exact .one ..
  | .cons st .nil, s, e, o, a, m, h => by rw [standB]; exact standS_laid st s e o a m h
  | .cons st (.cons st2 b), s, e, o, a, m, h => by
    rw [standB]
    have k1 := standS_laid st s m o a (m + 1) (by omega)
    exact k1.app (standB_laid (.cons st2 b) m e o a _ (by have := k1.1; omega)) h ⟨Nat.le_refl _, by omega⟩
end
theorem graph_good (b : Blk) : Good (graphOf b).2 ∧ ∀ x ∈ (graphOf b).2, x.start ≠ 1 := by
  obtain ⟨a1, a2, a3⟩ := standB_laid b 0 2 0 0 3 (by omega)
  have z : ∀ x ∈ (standB b 0 2 0 0 3).2, x.start ≠ 2 ∧ x.start ≠ 1 := fun x hx => by
    rcases a2 x hx with c | c <;> constructor <;> omega
  refine ⟨good_app a3 (good_one _) fun x hx y hy => ?_, fun x hx => ?_⟩
  · rw [List.mem_singleton] at hy
    rw [hy]
    exact (z x hx).1
  · rcases List.mem_append.mp hx with h | h
    · exact (z x h).2
    · rw [List.mem_singleton] at h
      rw [h]
      decide
/-! ### how many edges, how many points -/
theorem standC_len : ∀ (c : Cnd) (s y n m : Nat), (standC c s y n m).2.length ≤ 2 * c.parts ∧ (standC c s y n m).1 ≤ m + c.parts
  | .pair p, s, y, n, m => ⟨Nat.le_refl _, by show m ≤ m + 1; omega⟩
  | .not c, s, y, n, m => by
    have := standC_len c s n y m
    rw [standC, Cnd.parts]
    omega
  | .bin true c d, s, y, n, m => by
    have h1 := standC_len c s m n (m + 1)
    have h2 := standC_len d m y n (standC c s m n (m + 1)).1
    rw [standC, Cnd.parts]
    simp only [List.length_append]
    omega
  | .bin false c d, s, y, n, m => by
    have h1 := standC_len c s y m (m + 1)
    have h2 := standC_len d m y n (standC c s y m (m + 1)).1
    rw [standC, Cnd.parts]
    simp only [List.length_append]
    omega
mutual
theorem standS_len {N : List Str} : ∀ (st : Stm) (l : Bool) (s e o a m : Nat), st.ok N l → (standS st s e o a m).2.length ≤ 12 * st.size ∧ (standS st s e o a m).1 + 1 ≤ m + 12 * st.size
  | .set x v, l, s, e, o, a, m, h => by rw [standS, Stm.size]; exact ⟨by show 1 ≤ 12 * 1; decide, by simp only; omega⟩
  | .give v, l, s, e, o, a, m, h => by rw [standS, Stm.size]; exact ⟨by show 1 ≤ 12 * 1; decide, by simp only; omega⟩
  | .skip, l, s, e, o, a, m, h => by rw [standS, Stm.size]; exact ⟨by show 1 ≤ 12 * 1; decide, by simp only; omega⟩
  | .brk, l, s, e, o, a, m, h => by rw [standS, Stm.size]; exact ⟨by show 1 ≤ 12 * 1; decide, by simp only; omega⟩
  | .nxt, l, s, e, o, a, m, h => by rw [standS, Stm.size]; exact ⟨by show 1 ≤ 12 * 1; decide, by simp only; omega⟩
  | .ifs c b1 b2, l, s, e, o, a, m, h => by
    rw [Stm.ok] at h
    obtain ⟨g1, g2, g3, g4⟩ := h
    have k1 := standC_len c s m (m + 1) (m + 2)
    have k2 := standB_len b1 l m e o a (standC c s m (m + 1) (m + 2)).1 g3
    have k3 := standB_len b2 l (m + 1) e o a (standB b1 m e o a (standC c s m (m + 1) (m + 2)).1).1 g4
    rw [standS, Stm.size]
    simp only [List.length_append]
    omega
  | .while c b, l, s, e, o, a, m, h => by
    rw [Stm.ok] at h
    obtain ⟨g1, g2, g3⟩ := h
    have k1 := standC_len c s m e (m + 1)
    have k2 := standB_len b true m s e s (standC c s m e (m + 1)).1 g3
    rw [standS, Stm.size]
    simp only [List.length_append]
    omega
  | .loop b, l, s, e, o, a, m, h => by
    rw [Stm.ok] at h
    have k2 := standB_len b true s s e s m h
    rw [standS, Stm.size]
    omega
theorem standB_len {N : List Str} : ∀ (b : Blk) (l : Bool) (s e o a m : Nat), b.ok N l → (standB b s e o a m).2.length ≤ 12 * b.size + 1 ∧ (standB b s e o a m).1 ≤ m + 12 * b.size
  | .nil, l, s, e, o, a, m, h => by rw [standB, Blk.size]; simp
  | .cons st .nil, l, s, e, o, a, m, h => by
    rw [Blk.ok] at h
    have := standS_len st l s e o a m h.1
    rw [standB, Blk.size, Blk.size]
    omega
  | .cons st (.cons st2 b), l, s, e, o, a, m, h => by
    rw [Blk.ok] at h
    have k1 := standS_len st l s m o a (m + 1) h.1
    have k2 := standB_len (.cons st2 b) l m e o a (standS st s m o a (m + 1)).1 h.2
    have z : 1 ≤ st.size := by cases st <;> simp [Stm.size]
    rw [standB, Blk.size]
    simp only [List.length_append]
    omega
end
theorem graph_len {N : List Str} {b : Blk} (h : b.ok N false) : (graphOf b).2.length ≤ 12 * b.size + 2 ∧ (graphOf b).1 ≤ 12 * b.size + 4 := by
  have := standB_len b false 0 2 0 0 3 h
  unfold graphOf
  simp only [List.length_append, List.length_cons, List.length_nil]
  omega

/-! ### places -/
def places (f : Edge → Bool) (es : List Edge) : List Nat := (es.zipIdx.filter fun p => f p.1).map (·.2)
theorem places_nil (f : Edge → Bool) : places f [] = [] := rfl
theorem places_snoc (f : Edge → Bool) (es : List Edge) (e : Edge) : places f (es ++ [e]) = places f es ++ (if f e = true then [es.length] else []) := by
  unfold places
  rw [List.zipIdx_append, List.filter_append, List.map_append]
  congr 1
  simp only [List.zipIdx_cons, List.zipIdx_nil, Nat.zero_add, List.filter_cons, List.filter_nil]
  split <;> rfl
theorem places_congr {f g : Edge → Bool} {es : List Edge} (h : ∀ e ∈ es, f e = g e) : places f es = places g es := by
  unfold places
  congr 1
  refine List.filter_congr fun p hp => h _ ?_
  have := List.mem_zipIdx hp
  rw [this.2.2]
  exact List.getElem_mem _
theorem places_mem {f : Edge → Bool} {es : List Edge} {i : Nat} (h : i ∈ places f es) : ∃ e, es[i]? = some e ∧ f e = true := by
  unfold places at h
  obtain ⟨p, hp, rfl⟩ := List.mem_map.mp h
  obtain ⟨h1, h2⟩ := List.mem_filter.mp hp
  exact ⟨p.1, List.mem_zipIdx_iff_getElem?.mp h1, h2⟩
theorem places_some {f : Edge → Bool} {es : List Edge} {e : Edge} (h : e ∈ es) (hf : f e = true) : ∃ i rest e', places f es = i :: rest ∧ es[i]? = some e' ∧ f e' = true := by
  obtain ⟨j, hj⟩ := List.getElem?_of_mem h
  have hm : j ∈ places f es := List.mem_map.mpr ⟨(e, j), List.mem_filter.mpr ⟨List.mem_zipIdx_iff_getElem?.mpr hj, hf⟩, rfl⟩
  cases q : places f es with
  | nil =>
    rw [q] at hm
    cases hm
  | cons i rest =>
    obtain ⟨e', h1, h2⟩ := places_mem (f := f) (es := es) (i := i) (by rw [q]; exact List.mem_cons_self)
    exact ⟨i, rest, e', rfl, h1, h2⟩
theorem places_le (f : Edge → Bool) (es : List Edge) : (places f es).length ≤ es.length := by
  unfold places
  rw [List.length_map]
  exact Nat.le_trans (List.length_filter_le _ _) (by rw [List.length_zipIdx]; exact Nat.le_refl _)

def hit (p : Nat) (d : Deed) (e : Edge) : Bool := decide (e.start = p) && decide (e.deed = d)
def hitO (p : Nat) (env : En) (e : Edge) : Bool := decide (e.start = p) && e.deed.open env
/-- the open edges are the deed's -/
theorem hit_open {es : List Edge} {e : Edge} {env : En} (g : Good es) (h : e ∈ es) (ho : e.deed.open env = true) : places (hitO e.start env) es = places (hit e.start e.deed) es := by
  refine places_congr fun x hx => ?_
  unfold hitO hit
  by_cases c : x.start = e.start
  · rw [decide_eq_true c, Bool.true_and, Bool.true_and]
    rcases g x hx e h c with rfl | o
    · rw [ho, decide_eq_true rfl]
    · obtain ⟨xs, xd, xt⟩ := x
      obtain ⟨s, d, t⟩ := e
      simp only at o ho ⊢
      cases xd <;> cases d <;> first | exact o.elim | skip
      rename_i p b q u
      obtain ⟨rfl, rfl⟩ := o
      have ho' : p.holds env = !b := of_decide_eq_true ho
      show decide (p.holds env = b) = decide (Deed.test p b = Deed.test p !b)
      rw [ho']
      cases b <;> simp
  · rw [decide_eq_false c, Bool.false_and, Bool.false_and]
theorem opp_irr : ∀ d : Deed, ¬ opp d d
  | .test p t, h => by
    have z : t = !t := h.2
    cases t <;> simp at z
  | .skip, h => h
  | .set _ _, h => h
  | .give _, h => h
theorem hit_same {es : List Edge} {e x : Edge} (g : Good es) (h : e ∈ es) (hx : x ∈ es) (hh : hit e.start e.deed x = true) : x = e := by
  unfold hit at hh
  rw [Bool.and_eq_true, decide_eq_true_eq, decide_eq_true_eq] at hh
  rcases g x hx e h hh.1 with r | o
  · exact r
  · rw [hh.2] at o
    exact (opp_irr _ o).elim

/-! ### the counts -/
def bump (f : List Int) (i : Nat) : List Int := f.set i (f.getD i 0 + 1)
theorem bump_len (f : List Int) (i : Nat) : (bump f i).length = f.length := List.length_set
def walkN (es : List Edge) : List Deed → Nat → List Int → List Int
  | [], _, f => f
  | d :: ds, p, f => match places (hit p d) es with
    | [] => f
    | i :: _ => walkN es ds ((es[i]?.map (·.stop)).getD 0) (bump f i)
theorem walkN_len (es : List Edge) : ∀ (ds : List Deed) (p : Nat) (f : List Int), (walkN es ds p f).length = f.length
  | [], _, _ => rfl
  | d :: ds, p, f => by
    rw [walkN]
    cases places (hit p d) es with
    | nil => rfl
    | cons i r => exact (walkN_len es ds _ _).trans (bump_len f i)
/-- one step of a path -/
theorem Path.step {es : List Edge} {p q : Nat} {env env' : En} {d : Deed} {ds : List Deed} (g : Good es) (h : Path es p env (d :: ds) q env') :
    ∃ i rest e, places (hit p d) es = i :: rest ∧ places (hitO p env) es = i :: rest ∧ es[i]? = some e ∧ e.start = p ∧ e.deed = d ∧ d.open env = true ∧ Path es e.stop (d.run env) ds q env' ∧ ∀ f, walkN es (d :: ds) p f = walkN es ds e.stop (bump f i) := by
  generalize hl : d :: ds = l at h
  cases h with
  | nil => cases hl
  | @cons e _ _ ds' _ h1 h2 h3 =>
    injection hl with ha hb
    subst ha
    subst hb
    have hh : hit e.start e.deed e = true := by unfold hit; rw [decide_eq_true rfl, decide_eq_true rfl]; rfl
    obtain ⟨i, rest, e', k1, k2, k3⟩ := places_some h1 hh
    have e2 := hit_same g h1 (List.mem_of_getElem? k2) k3
    subst e2
    refine ⟨i, rest, e', k1, (hit_open g h1 h2).trans k1, k2, rfl, rfl, h2, h3, fun f => ?_⟩
    rw [walkN, k1]
    simp only [k2, Option.map_some, Option.getD_some]
theorem Path.start {es : List Edge} {p q : Nat} {env env' : En} {d : Deed} {ds : List Deed} (h : Path es p env (d :: ds) q env') : ∃ e ∈ es, e.start = p := by
  generalize hl : d :: ds = l at h
  cases h with
  | nil => cases hl
  | @cons e _ _ ds' _ h1 h2 h3 => exact ⟨e, h1, rfl⟩

/-! ### the flows -/
def sumAt (g : Edge → Bool) (es : List Edge) (f : List Int) : Int := (((es.zip f).filter fun p => g p.1).map (·.2)).sum
theorem sumAt_bump (g : Edge → Bool) : ∀ (es : List Edge) (f : List Int) (i : Nat) (e : Edge), f.length = es.length → es[i]? = some e → sumAt g es (bump f i) = sumAt g es f + (if g e = true then 1 else 0)
  | [], f, i, e, _, h => by simp at h
  | x :: es, [], i, e, hl, h => by simp at hl
  | x :: es, a :: f, 0, e, hl, h => by
    have e1 : x = e := Option.some.inj h
    subst e1
    show sumAt g (x :: es) ((a + 1) :: f) = _
    unfold sumAt
    simp only [List.zip_cons_cons, List.filter_cons]
    by_cases c : g x = true
    · rw [if_pos c, if_pos c, if_pos c, List.map_cons, List.map_cons, List.sum_cons, List.sum_cons]
      simp only
      omega
    · rw [if_neg c, if_neg c, if_neg c, Int.add_zero]
  | x :: es, a :: f, i + 1, e, hl, h => by
    have ih := sumAt_bump g es f i e (by simpa using hl) (by simpa using h)
    show sumAt g (x :: es) (a :: bump f i) = _
    unfold sumAt at ih ⊢
    simp only [List.zip_cons_cons, List.filter_cons]
    by_cases c : g x = true
    · rw [if_pos c, if_pos c, List.map_cons, List.map_cons, List.sum_cons, List.sum_cons, ih]
      omega
    · rw [if_neg c, if_neg c, ih]
theorem sumAt_zero (g : Edge → Bool) : ∀ (es : List Edge), sumAt g es (List.replicate es.length 0) = 0
  | [] => rfl
  | x :: es => by
    have ih := sumAt_zero g es
    unfold sumAt at ih ⊢
    simp only [List.length_cons, List.replicate_succ, List.zip_cons_cons, List.filter_cons]
    by_cases c : g x = true
    · rw [if_pos c, List.map_cons, List.sum_cons, ih]; rfl
    · rw [if_neg c, ih]
def one (b : Prop) [Decidable b] : Int := if b then 1 else 0
def came (es : List Edge) (x : Nat) (f : List Int) : Int := sumAt (fun e => decide (e.stop = x)) es f
def gone (es : List Edge) (x : Nat) (f : List Int) : Int := sumAt (fun e => decide (e.start = x)) es f
theorem flow_walk {es : List Edge} (g : Good es) (x : Nat) {q : Nat} {env' : En} : ∀ (ds : List Deed) (p : Nat) (env : En) (f : List Int), f.length = es.length → Path es p env ds q env' →
    came es x (walkN es ds p f) + one (x = p) - gone es x (walkN es ds p f) = came es x f + one (x = q) - gone es x f
  | [], p, env, f, hl, h => by
    cases h
    rfl
  | d :: ds, p, env, f, hl, h => by
    obtain ⟨i, rest, e, k1, k2, k3, k4, k5, k6, k7, k8⟩ := h.step g
    have ih := flow_walk g x ds e.stop _ (bump f i) (by rw [bump_len]; exact hl) k7
    rw [k8 f]
    have s1 := sumAt_bump (fun e => decide (e.stop = x)) es f i e hl k3
    have s2 := sumAt_bump (fun e => decide (e.start = x)) es f i e hl k3
    unfold came gone at ih ⊢
    rw [s1, s2] at ih
    subst k4
    unfold one at ih ⊢
    simp only [decide_eq_true_eq] at ih
    by_cases c1 : e.stop = x <;> by_cases c2 : e.start = x
    · rw [if_pos c1.symm, if_pos c1, if_pos c2] at ih
      rw [if_pos c2.symm]
      omega
    · rw [if_pos c1.symm, if_pos c1, if_neg c2] at ih
      rw [if_neg (fun z => c2 z.symm)]
      omega
    · rw [if_neg (fun z => c1 z.symm), if_neg c1, if_pos c2] at ih
      rw [if_pos c2.symm]
      omega
    · rw [if_neg (fun z => c1 z.symm), if_neg c1, if_neg c2] at ih
      rw [if_neg (fun z => c2 z.symm)]
      omega

/-! ### all together: a run's deeds -/
/-- what is known of a run -/
structure RunOk (b : Blk) (env : En) (turns : Nat) (r : Rs) : Prop where
  ex : ∃ p env', Path (graphOf b).2 0 env r.deeds p env' ∧ r.deeds.length ≤ turns ∧ (r.deeds.length < turns → p = 1) ∧ (r.val.isSome = true → p = 1)
theorem run_ok {N : List Str} (b : Blk) (env : En) (turns : Nat) (h : b.ok N false) : RunOk b env turns (runOf b env turns) := by
  have hb : ∀ x ∈ (standB b 0 2 0 0 3).2, x ∈ (graphOf b).2 := fun x hx => List.mem_append.mpr (.inl hx)
  obtain ⟨ds, p, g1, g2, g3, g4, g5, g6⟩ := goB_res b 0 2 0 0 3 ⟨turns, [], env, none⟩ hb
  have nb := goB_md b ⟨turns, [], env, none⟩ h
  unfold runOf
  have eb : goB b ⟨turns, [], env, none⟩ = onBlk b (fun r => goL b r) ⟨turns, [], env, none⟩ := rfl
  rw [eb]
  generalize onBlk b (fun r => goL b r) ⟨turns, [], env, none⟩ = g at *
  obtain ⟨md, q⟩ := g
  simp only at g1 g2 g3 g4 g5 g6
  rw [List.nil_append] at g2
  cases md with
  | on =>
    have e1 : p = 2 := g4
    subst e1
    by_cases z : q.left = 0
    · show RunOk b env turns (match turn (.give (.num 0)) q with
        | (true, q') => { q' with val := some 0 }
        | (false, q') => q')
      rw [turn_no z]
      have hv : q.val = none := g5
      refine ⟨2, q.env, by rw [g2]; exact g1, by rw [g2]; omega, fun c => by rw [g2] at c; omega, fun c => by simp only [hv] at c; cases c⟩
    · show RunOk b env turns (match turn (.give (.num 0)) q with
        | (true, q') => { q' with val := some 0 }
        | (false, q') => q')
      rw [turn_yes z]
      have w := Path.one (es := (graphOf b).2) (e := ⟨2, .give (.num 0), 1⟩) (env := q.env) (List.mem_append.mpr (.inr (List.mem_singleton.mpr rfl))) rfl
      refine ⟨1, q.env, by simp only [g2]; exact g1.app w, by simp only [g2, List.length_append, List.length_cons, List.length_nil]; omega, fun _ => rfl, fun _ => rfl⟩
  | cut =>
    have e1 : q.left = 0 := g4
    have hv : q.val = none := g5
    refine ⟨p, q.env, by rw [g2]; exact g1, by rw [g2]; omega, fun c => by simp only [g2] at c; omega, fun c => by simp only [hv] at c; cases c⟩
  | give =>
    have e1 : p = 1 := g4
    subst e1
    exact ⟨1, q.env, by rw [g2]; exact g1, by rw [g2]; omega, fun _ => rfl, fun _ => rfl⟩
  | brk => exact (nb.1 rfl).elim
  | nxt => exact (nb.2 rfl).elim

/-- the law's counts over the rows -/
def countAll (b : Blk) (turns : Nat) : List En → List Int → List Int
  | [], f => f
  | env :: r, f => countAll b turns r (walkN (graphOf b).2 (runOf b env turns).deeds 0 f)
def doneAll (b : Blk) (turns : Nat) : List En → Nat
  | [] => 0
  | env :: r => doneAll b turns r + (if (runOf b env turns).val.isSome = true then 1 else 0)
theorem countAll_len (b : Blk) (turns : Nat) : ∀ (rows : List En) (f : List Int), (countAll b turns rows f).length = f.length
  | [], _ => rfl
  | env :: r, f => by rw [countAll, countAll_len b turns r, walkN_len]
theorem doneAll_le (b : Blk) (turns : Nat) : ∀ rows : List En, doneAll b turns rows ≤ rows.length
  | [] => Nat.le_refl _
  | env :: r => by
    have := doneAll_le b turns r
    rw [doneAll, List.length_cons]
    split <;> omega
theorem flow_all {N : List Str} {b : Blk} {turns : Nat} (h : b.ok N false) (x : Nat) : ∀ (rows : List En) (f : List Int), f.length = (graphOf b).2.length → doneAll b turns rows = rows.length →
    came (graphOf b).2 x (countAll b turns rows f) + one (x = 0) * (rows.length : Int) - gone (graphOf b).2 x (countAll b turns rows f) = came (graphOf b).2 x f + one (x = 1) * (rows.length : Int) - gone (graphOf b).2 x f
  | [], f, hl, hd => by simp only [countAll, List.length_nil]; omega
  | env :: r, f, hl, hd => by
    have hle := doneAll_le b turns r
    rw [doneAll, List.length_cons] at hd
    have hv : (runOf b env turns).val.isSome = true := by
      by_cases c : (runOf b env turns).val.isSome = true
      · exact c
      · rw [if_neg c] at hd; omega
    rw [if_pos hv] at hd
    have ih := flow_all (turns := turns) h x r (walkN (graphOf b).2 (runOf b env turns).deeds 0 f) (by rw [walkN_len]; exact hl) (by omega)
    obtain ⟨p, env', hp, _, _, h1⟩ := (run_ok b env turns h).ex
    have w := flow_walk (graph_good b).1 x _ 0 env f hl hp
    rw [h1 hv] at w
    rw [countAll, List.length_cons]
    have e1 : one (x = 0) * ((r.length + 1 : Nat) : Int) = one (x = 0) * (r.length : Int) + one (x = 0) := by rw [Int.natCast_succ, Int.mul_add, Int.mul_one]
    have e2 : one (x = 1) * ((r.length + 1 : Nat) : Int) = one (x = 1) * (r.length : Int) + one (x = 1) := by rw [Int.natCast_succ, Int.mul_add, Int.mul_one]
    rw [e1, e2]
    omega
end Sv
end
section
set_option Elab.async false
set_option linter.all false
set_option autoImplicit false
set_option maxRecDepth 100000
/-! W0: the text by places, what the names hold, what is kept of a heap, data. -/
namespace Sv
open PySem PySem.Spec PyProof.Rows L2

/-! ### the text -/
structure DefOk (K : PySem.W.Frag) (mg : Str → Option Value) (x : Str) (st : Stmt) (ps : List Str) : Prop where
  ex : ∃ (f : Addr) (fd : FuncData), C8.Def K mg x st f fd ∧ Binds K fd ps []
structure MetOk (K : PySem.W.Frag) (m qual : Str) (C : Addr) (st : Stmt) (ps : List Str) : Prop where
  ex : ∃ (f : Addr) (fd : FuncData), Meth K C m f ∧ C8.Fun K m qual st f fd ∧ Binds K fd ps []
structure MakOk (K : PySem.W.Frag) (mg : Str → Option Value) (x qual : Str) (C : Addr) (st : Stmt) (ps : List Str) : Prop where
  ex : ∃ (f : Addr) (fd : FuncData), Mk K C f ∧ mg x = some (.ref C) ∧ C8.Fun K "__init__" qual st f fd ∧ Binds K fd ps []
structure Txt (K : PySem.W.Frag) (mg : Str → Option Value) : Type where
  z_len : mg "len" = none
  z_isinstance : mg "isinstance" = none
  z_abs : mg "abs" = none
  z_sum : mg "sum" = none
  z_any : mg "any" = none
  z_all : mg "all" = none
  z_range : mg "range" = none
  z_enumerate : mg "enumerate" = none
  z_zip : mg "zip" = none
  z_int : mg "int" = none
  z_bool : mg "bool" = none
  z_str : mg "str" = none
  z_tuple : mg "tuple" = none
  z_list : mg "list" = none
  z_dict : mg "dict" = none
  g_BEGIN : ∃ u, mg "BEGIN" = some u ∧ RelV (.int 0) u
  g_END : ∃ u, mg "END" = some u ∧ RelV (.int 1) u
  g_FINISH : ∃ u, mg "FINISH" = some u ∧ RelV (.int 2) u
  a_PAIRS_graphs : Addr
  g_PAIRS_graphs : ∃ u, mg "PAIRS_graphs" = some u ∧ RelV (.ref a_PAIRS_graphs) u
  t_PAIRS_graphs : ∀ H, SqT K H a_PAIRS_graphs ((["below", "most", "is"] : List Str).map V.str)
  a_KEYWORDS : Addr
  g_KEYWORDS : ∃ u, mg "KEYWORDS" = some u ∧ RelV (.ref a_KEYWORDS) u
  t_KEYWORDS : ∀ H, SqT K H a_KEYWORDS ((["program", "of", "if", "else", "while", "loop", "end", "break", "next", "give", "skip", "plus", "less", "times", "below", "most", "is", "not", "and", "or"] : List Str).map V.str)
  g_LETTERS : ∃ u, mg "LETTERS" = some u ∧ RelV (.str "abcdefghijklmnopqrstuvwxyz") u
  g_DIGITS : ∃ u, mg "DIGITS" = some u ∧ RelV (.str "0123456789") u
  g_GREATEST : ∃ u, mg "GREATEST" = some u ∧ RelV (.int 999999999) u
  g_GREATEST_FACTOR : ∃ u, mg "GREATEST_FACTOR" = some u ∧ RelV (.int 999) u
  g_MOST_INPUTS : ∃ u, mg "MOST_INPUTS" = some u ∧ RelV (.int 4) u
  g_MOST_STATEMENTS : ∃ u, mg "MOST_STATEMENTS" = some u ∧ RelV (.int 40) u
  g_MOST_PAIRS : ∃ u, mg "MOST_PAIRS" = some u ∧ RelV (.int 6) u
  g_MOST_PARTS : ∃ u, mg "MOST_PARTS" = some u ∧ RelV (.int 20) u
  g_MOST_NAMES : ∃ u, mg "MOST_NAMES" = some u ∧ RelV (.int 8) u
  a_LOOPS : Addr
  g_LOOPS : ∃ u, mg "LOOPS" = some u ∧ RelV (.ref a_LOOPS) u
  t_LOOPS : ∀ H, SqT K H a_LOOPS ((["while", "loop"] : List Str).map V.str)
  a_PAIRS_programs : Addr
  g_PAIRS_programs : ∃ u, mg "PAIRS_programs" = some u ∧ RelV (.ref a_PAIRS_programs) u
  t_PAIRS_programs : ∀ H, SqT K H a_PAIRS_programs ((["below", "most", "is"] : List Str).map V.str)
  d_is_int : DefOk K mg "is_int" (topS 8) ["value"]
  d_is_row : DefOk K mg "is_row" (topS 9) ["value"]
  d_check_from_0 : DefOk K mg "check_from_0" (topS 10) ["what", "value"]
  d_as_tuples : DefOk K mg "as_tuples" (topS 11) ["value"]
  d_values_at : DefOk K mg "values_at" (topS 13) ["pairs"]
  d_operand_value : DefOk K mg "operand_value" (topS 14) ["operand", "now"]
  d_value_of : DefOk K mg "value_of" (topS 15) ["told", "now"]
  d_holds : DefOk K mg "holds" (topS 16) ["pair", "now"]
  d_is_inputs : DefOk K mg "is_inputs" (topS 17) ["program", "value"]
  d_check_rows : DefOk K mg "check_rows" (topS 18) ["program", "rows"]
  d_graph_of : DefOk K mg "graph_of" (topS 27) ["program"]
  d_is_open : DefOk K mg "is_open" (topS 28) ["deed", "values"]
  d_tally : DefOk K mg "tally" (topS 30) ["graph", "now", "turns", "found"]
  d_counts : DefOk K mg "counts" (topS 31) ["program", "rows", "turns"]
  d_is_name : DefOk K mg "is_name" (topS 46) ["value"]
  d_is_plain : DefOk K mg "is_plain" (topS 47) ["value", "sort"]
  d_form_of : DefOk K mg "form_of" (topS 48) ["part", "sort"]
  d_check_block : DefOk K mg "check_block" (topS 49) ["block", "looped"]
  d_check_part : DefOk K mg "check_part" (topS 50) ["part", "sort", "looped"]
  d_blocks_of : DefOk K mg "blocks_of" (topS 51) ["statement"]
  d_statements_in : DefOk K mg "statements_in" (topS 52) ["block"]
  d_parts_in : DefOk K mg "parts_in" (topS 53) ["condition"]
  d_items_behind : DefOk K mg "items_behind" (topS 54) ["part"]
  d_mentioned : DefOk K mg "mentioned" (topS 55) ["part"]
  d_unlike_ones : DefOk K mg "unlike_ones" (topS 56) ["names"]
  d__law_pen : DefOk K mg "_law_pen" (topS 59) ["_law_script"]
  d__law_draw : DefOk K mg "_law_draw" (topS 60) ["_law_pen_here", "_law_many"]
  d__law_pick : DefOk K mg "_law_pick" (topS 61) ["_law_pen_here", "_law_some"]
  d__law_far : DefOk K mg "_law_far" (topS 62) ["_law_pen_here"]
  d__law_is_int : DefOk K mg "_law_is_int" (topS 63) ["_law_value"]
  d__law_listed : DefOk K mg "_law_listed" (topS 64) ["_law_pen_here", "_law_row"]
  d__law_some_operand : DefOk K mg "_law_some_operand" (topS 65) ["_law_pen_here", "_law_names"]
  d__law_some_value : DefOk K mg "_law_some_value" (topS 66) ["_law_pen_here", "_law_names"]
  d__law_some_pair : DefOk K mg "_law_some_pair" (topS 67) ["_law_pen_here", "_law_names"]
  d__law_some_condition : DefOk K mg "_law_some_condition" (topS 68) ["_law_pen_here", "_law_names"]
  d__law_plain_statement : DefOk K mg "_law_plain_statement" (topS 69) ["_law_pen_here", "_law_names", "_law_is_in_loop"]
  d__law_some_block : DefOk K mg "_law_some_block" (topS 70) ["_law_pen_here", "_law_names", "_law_depth", "_law_is_in_loop"]
  d__law_size : DefOk K mg "_law_size" (topS 71) ["_law_block"]
  d__law_some_program : DefOk K mg "_law_some_program" (topS 72) ["_law_pen_here"]
  d__law_fresh : DefOk K mg "_law_fresh" (topS 73) ["_law_made"]
  d__law_stand_condition : DefOk K mg "_law_stand_condition" (topS 74) ["_law_made", "_law_told", "_law_start", "_law_yes", "_law_no"]
  d__law_stand_statement : DefOk K mg "_law_stand_statement" (topS 75) ["_law_made", "_law_told", "_law_spots"]
  d__law_stand_block : DefOk K mg "_law_stand_block" (topS 76) ["_law_made", "_law_block", "_law_spots"]
  d__law_graph : DefOk K mg "_law_graph" (topS 77) ["_law_program"]
  d__law_value_of : DefOk K mg "_law_value_of" (topS 78) ["_law_value", "_law_now"]
  d__law_pair_holds : DefOk K mg "_law_pair_holds" (topS 79) ["_law_pair", "_law_now"]
  d__law_relisted : DefOk K mg "_law_relisted" (topS 80) ["_law_pen_here", "_law_value"]
  d__law_program_of : DefOk K mg "_law_program_of" (topS 81) ["_law_pen_here", "_law_told"]
  d__law_inputs : DefOk K mg "_law_inputs" (topS 82) ["_law_pen_here", "_law_told"]
  d__law_pairs : DefOk K mg "_law_pairs" (topS 83) ["_law_told", "_law_inputs_here"]
  d__law_turn : DefOk K mg "_law_turn" (topS 84) ["_law_state", "_law_deed"]
  d__law_go_condition : DefOk K mg "_law_go_condition" (topS 85) ["_law_state", "_law_told"]
  d__law_go_block : DefOk K mg "_law_go_block" (topS 86) ["_law_state", "_law_block"]
  d__law_go_statement : DefOk K mg "_law_go_statement" (topS 87) ["_law_state", "_law_told"]
  d__law_go_round : DefOk K mg "_law_go_round" (topS 88) ["_law_state", "_law_told"]
  d__law_run : DefOk K mg "_law_run" (topS 89) ["_law_told", "_law_inputs_here", "_law_turns"]
  d__law_counted : DefOk K mg "_law_counted" (topS 90) ["_law_told", "_law_graph_here", "_law_rows", "_law_turns"]
  d__law_flows : DefOk K mg "_law_flows" (topS 91) ["_law_graph_here", "_law_told", "_law_many"]
  d__law_fault : DefOk K mg "_law_fault" (topS 92) ["_law_call"]
  C_Edge : Addr
  cl_Edge : Cls K C_Edge
  n_Edge_start : NoAttr K C_Edge "start"
  n_Edge_deed : NoAttr K C_Edge "deed"
  n_Edge_end : NoAttr K C_Edge "end"
  m_Edge : MakOk K mg "Edge" "Edge.__init__" C_Edge (clsS 24 0) ["self", "start", "deed", "end"]
  C_Graph : Addr
  cl_Graph : Cls K C_Graph
  n_Graph_points : NoAttr K C_Graph "points"
  n_Graph_edges : NoAttr K C_Graph "edges"
  m_Graph : MakOk K mg "Graph" "Graph.__init__" C_Graph (clsS 25 0) ["self", "points", "edges"]
  C_Builder : Addr
  cl_Builder : Cls K C_Builder
  n_Builder_many : NoAttr K C_Builder "many"
  n_Builder_made : NoAttr K C_Builder "made"
  m_Builder : MakOk K mg "Builder" "Builder.__init__" C_Builder (clsS 26 0) ["self"]
  e_Builder_fresh : MetOk K "fresh" "Builder.fresh" C_Builder (clsS 26 1) ["self"]
  e_Builder_tie : MetOk K "tie" "Builder.tie" C_Builder (clsS 26 2) ["self", "start", "deed", "end"]
  e_Builder_stand_block : MetOk K "stand_block" "Builder.stand_block" C_Builder (clsS 26 3) ["self", "block", "spots"]
  e_Builder_stand_statement : MetOk K "stand_statement" "Builder.stand_statement" C_Builder (clsS 26 4) ["self", "statement", "spots"]
  e_Builder_plain : MetOk K "plain" "Builder.plain" C_Builder (clsS 26 5) ["self", "statement", "spots"]
  e_Builder_stand_condition : MetOk K "stand_condition" "Builder.stand_condition" C_Builder (clsS 26 6) ["self", "told", "start", "yes", "no"]
  C_Program : Addr
  cl_Program : Cls K C_Program
  n_Program_name : NoAttr K C_Program "name"
  n_Program_inputs : NoAttr K C_Program "inputs"
  n_Program_block : NoAttr K C_Program "block"
  m_Program : MakOk K mg "Program" "Program.__init__" C_Program (clsS 57 0) ["self", "name", "inputs", "block"]
  e_Program_names : MetOk K "names" "Program.names" C_Program (clsS 57 2) ["self"]

section
variable {P : Program} {w : World} {K : PySem.W.Frag} {mg : Str → Option Value} {base : Heap}
theorem calD {x : Str} {st : Stmt} {N ps : List Str} {k : Nat} {sp : Sp} (D : DefOk K mg x st ps) (S : FnScope N ps (C8.fnScope st)) (len : ∀ vs H Q E, sp vs H Q E → vs.length = ps.length)
    (hbody : ∀ (f : Addr) (cdv : Value) (A : Around) (outer : List Env) (s : Shared) (H : Hp) (vs : List V) (Q : VK) (E : XK), Room k (A.deeper (envOfC x (C8.fnScope st) s.heap.objs.size f cdv)) → sp vs H Q E →
      ∃ t, PSs (cxOf C8.CX0 P w K mg base N x (C8.fnScope st) f cdv A outer s H E).nox (C8.fnBody st) t ∧ t { nx := fun _ H' => Q .non H', rt := Q } (start N vs) H) : C8.Cal P w K mg base (k + 1) x sp [] := by
  obtain ⟨f, fd, F, b⟩ := D.ex
  exact C8.cal0 F b .nil S len (hbody f)
theorem metD {m qual : Str} {C : Addr} {st : Stmt} {N ps : List Str} {k : Nat} {sp : Sp} (c : Cls K C) (D : MetOk K m qual C st ps) (S : FnScope N ps (C8.fnScope st)) (len : ∀ vs H Q E, sp vs H Q E → vs.length = ps.length)
    (hbody : ∀ (f : Addr) (cdv : Value) (A : Around) (outer : List Env) (s : Shared) (H : Hp) (vs : List V) (Q : VK) (E : XK), Room k (A.deeper (envOfC qual (C8.fnScope st) s.heap.objs.size f cdv)) → sp vs H Q E →
      ∃ t, PSs (cxOf C8.CX0 P w K mg base N qual (C8.fnScope st) f cdv A outer s H E).nox (C8.fnBody st) t ∧ t { nx := fun _ H' => Q .non H', rt := Q } (start N vs) H) : C8.Met P w K mg base (k + 1) C m sp [] := by
  obtain ⟨f, fd, me, F, b⟩ := D.ex
  exact C8.met0 c me F b S len (hbody f)
theorem makD {x qual : Str} {C : Addr} {st : Stmt} {N ps : List Str} {k : Nat} {sp : Sp} (D : MakOk K mg x qual C st ps) (S : FnScope N ps (C8.fnScope st)) (len : ∀ vs H Q E, sp vs H Q E → vs.length = ps.length)
    (hbody : ∀ (f : Addr) (cdv : Value) (A : Around) (outer : List Env) (s : Shared) (H : Hp) (vs : List V) (Q : VK) (E : XK), Room k (A.deeper (envOfC qual (C8.fnScope st) s.heap.objs.size f cdv)) → sp vs H Q E →
      ∃ t, PSs (cxOf C8.CX0 P w K mg base N qual (C8.fnScope st) f cdv A outer s H E).nox (C8.fnBody st) t ∧ t { nx := fun _ H' => Q .non H', rt := Q } (start N vs) H) : C8.Mak P w K mg base (k + 1) x C sp [] := by
  obtain ⟨f, fd, M, hm, F, b⟩ := D.ex
  exact C8.mak0 M hm F b .nil S len (hbody f)
end

/-! ### what is kept -/
/-- all but what stands at M is as it was -/
def Kp (M : List Addr) (H H' : Hp) : Prop := ∀ a u, a ∉ M → H a = some u → H' a = some u
section
variable {M : List Addr} {H H' H2 : Hp} {a p : Addr} {o u : HO} {K : PySem.W.Frag}
theorem Kp.refl : Kp M H H := fun _ _ _ h => h
theorem Kp.trans (h : Kp M H H') (h' : Kp M H' H2) : Kp M H H2 := fun a u n e => h' a u n (h a u n e)
theorem Kp.new (h : H p = none) : Kp M H (upd H p o) := fun a u _ e => by rw [upd_ne (ne_of_none e h)]; exact e
theorem Kp.put (h : p ∈ M) : Kp M H (upd H p o) := fun a u n e => by
  rw [upd_ne (fun z => n (by rw [z]; exact h))]
  exact e
theorem Kp.sub {N : List Addr} (h : Kp M H H') (s : ∀ a ∈ M, a ∈ N) : Kp N H H' := fun a u n e => h a u (fun z => n (s a z)) e
theorem Kp.all (h : Kp [] H H') : Kp M H H' := h.sub fun a q => by cases q
theorem Kp.at (h : Kp M H H') (e : H a = some u) (n : a ∉ M) : H' a = some u := h a u n e
theorem Kp.same (h : Kp [] H H') : Same H H' := fun a u e => h a u (by simp) e
theorem Same.kp (h : Same H H') : Kp M H H' := fun a u _ e => h a u e
theorem Kp.free (h : Kp [] H H') (e : H' a = none) : H a = none := by
  cases q : H a with
  | none => rfl
  | some u => rw [h a u (by simp) q] at e; cases e
/-- what was not there at first may be left out of M -/
theorem Kp.drop (h : Kp (p :: M) H H') (e : H p = none) : Kp M H H' := fun a u n q => by
  refine h a u (fun z => ?_) q
  rcases List.mem_cons.mp z with z | z
  · rw [z, e] at q; cases q
  · exact n z
end
/-- no list, no tuple -/
def noSeq : Option HO → Bool
  | some (.lst _) => false
  | some (.tup _) => false
  | some (.frz _ (.lst _)) => false
  | some (.frz _ (.tup _)) => false
  | _ => true
def noTup : Option HO → Bool
  | some (.tup _) => false
  | some (.frz _ (.tup _)) => false
  | _ => true
theorem noTup_of {o : Option HO} (h : noSeq o = true) : noTup o = true := by
  cases o with
  | none => rfl
  | some u =>
    cases u <;> first | rfl | cases h | skip
    rename_i ob v
    cases v <;> first | rfl | cases h
section
variable {M : List Addr} {H H' H2 : Hp} {a p : Addr} {o u : HO} {K : PySem.W.Frag} {xs : List V}
def FreeS (M : List Addr) (H : Hp) : Prop := ∀ b ∈ M, noSeq (H b) = true
def FreeT (M : List Addr) (H : Hp) : Prop := ∀ b ∈ M, noTup (H b) = true
theorem FreeS.t (h : FreeS M H) : FreeT M H := fun b hb => noTup_of (h b hb)
theorem FreeS.nil : FreeS [] H := fun b hb => nomatch hb
theorem Kp.sqL (k : Kp M H H') (f : FreeS M H) (h : SqL K H a xs) : SqL K H' a xs := by
  rcases h with (h | ⟨o, h⟩) | h
  · refine .inl (.inl (k _ _ (fun z => ?_) h))
    have := f a z
    rw [h] at this
    cases this
  · refine .inl (.inr ⟨o, k _ _ (fun z => ?_) h⟩)
    have := f a z
    rw [h] at this
    cases this
  · exact .inr h
theorem Kp.sqT (k : Kp M H H') (f : FreeT M H) (h : SqT K H a xs) : SqT K H' a xs := by
  rcases h with (h | ⟨o, h⟩) | h
  · refine .inl (.inl (k _ _ (fun z => ?_) h))
    have := f a z
    rw [h] at this
    cases this
  · refine .inl (.inr ⟨o, k _ _ (fun z => ?_) h⟩)
    have := f a z
    rw [h] at this
    cases this
  · exact .inr h
mutual
theorem dp_mono (hl : ∀ a xs, SqL K H a xs → SqL K H' a xs) (ht : ∀ a xs, SqT K H a xs → SqT K H' a xs) : ∀ (d : PyData) (v : V), Dp K H v d → Dp K H' v d
  | .none, _, h => by cases h; exact .non
  | .bool b, _, h => by cases h; exact .bl b
  | .int i, _, h => by cases h; exact .int i
  | .str x, _, h => by cases h; exact .str x
  | .list ds, _, h => by
    cases h with
    | lst hs ha => exact .lst (hl _ _ hs) (dp_monoA hl ht ds _ ha)
  | .tuple ds, _, h => by
    cases h with
    | tup hs ha => exact .tup (ht _ _ hs) (dp_monoA hl ht ds _ ha)
  | .dict _, _, h => by cases h
theorem dp_monoA (hl : ∀ a xs, SqL K H a xs → SqL K H' a xs) (ht : ∀ a xs, SqT K H a xs → SqT K H' a xs) : ∀ (ds : List PyData) (vs : List V), DpAll K H vs ds → DpAll K H' vs ds
  | [], _, h => by cases h; exact .nil
  | d :: ds, _, h => by
    cases h with
    | cons h1 h2 => exact .cons (dp_mono hl ht d _ h1) (dp_monoA hl ht ds _ h2)
end
theorem Kp.dp {v : V} {d : PyData} (k : Kp M H H') (f : FreeS M H) (h : Dp K H v d) : Dp K H' v d := dp_mono (fun _ _ q => k.sqL f q) (fun _ _ q => k.sqT f.t q) d v h
theorem Kp.dpA {vs : List V} {ds : List PyData} (k : Kp M H H') (f : FreeS M H) (h : DpAll K H vs ds) : DpAll K H' vs ds := dp_monoA (fun _ _ q => k.sqL f q) (fun _ _ q => k.sqT f.t q) ds vs h
end
/-! ### data of tuples alone -/
mutual
def tu : PyData → Bool
  | .none => true
  | .bool _ => true
  | .int _ => true
  | .str _ => true
  | .list _ => false
  | .tuple ds => tuA ds
  | .dict _ => false
def tuA : List PyData → Bool
  | [] => true
  | d :: ds => tu d && tuA ds
end
section
variable {M : List Addr} {H H' H2 : Hp} {a p : Addr} {o u : HO} {K : PySem.W.Frag} {xs : List V}
mutual
theorem dp_monoT (ht : ∀ a xs, SqT K H a xs → SqT K H' a xs) : ∀ (d : PyData) (v : V), tu d = true → Dp K H v d → Dp K H' v d
  | .none, _, _, h => by cases h; exact .non
  | .bool b, _, _, h => by cases h; exact .bl b
  | .int i, _, _, h => by cases h; exact .int i
  | .str x, _, _, h => by cases h; exact .str x
  | .list ds, _, q, h => by simp [tu] at q
  | .tuple ds, _, q, h => by
    cases h with
    | tup hs ha => exact .tup (ht _ _ hs) (dp_monoTA ht ds _ (by simpa [tu] using q) ha)
  | .dict _, _, _, h => by cases h
theorem dp_monoTA (ht : ∀ a xs, SqT K H a xs → SqT K H' a xs) : ∀ (ds : List PyData) (vs : List V), tuA ds = true → DpAll K H vs ds → DpAll K H' vs ds
  | [], _, _, h => by cases h; exact .nil
  | d :: ds, _, q, h => by
    rw [tuA, Bool.and_eq_true] at q
    cases h with
    | cons h1 h2 => exact .cons (dp_monoT ht d _ q.1 h1) (dp_monoTA ht ds _ q.2 h2)
end
theorem Kp.dpT {v : V} {d : PyData} (k : Kp M H H') (f : FreeT M H) (q : tu d = true) (h : Dp K H v d) : Dp K H' v d := dp_monoT (fun _ _ q => k.sqT f q) d v q h
theorem Kp.dpTA {vs : List V} {ds : List PyData} (k : Kp M H H') (f : FreeT M H) (q : tuA ds = true) (h : DpAll K H vs ds) : DpAll K H' vs ds := dp_monoTA (fun _ _ q => k.sqT f q) ds vs q h
theorem tuA_all : ∀ {ds : List PyData}, (∀ d ∈ ds, tu d = true) → tuA ds = true
  | [], _ => rfl
  | d :: ds, h => by rw [tuA, h d List.mem_cons_self, tuA_all fun x hx => h x (List.mem_cons_of_mem _ hx)]; rfl
/-! ### taking data apart -/
theorem dpA_len : ∀ {vs : List V} {ds : List PyData}, DpAll K H vs ds → vs.length = ds.length
  | _, _, .nil => rfl
  | _, _, .cons _ h => by rw [List.length_cons, List.length_cons, dpA_len h]
theorem dpA_at : ∀ {vs : List V} {ds : List PyData} {i : Nat} {d : PyData}, DpAll K H vs ds → ds[i]? = some d → ∃ v, vs[i]? = some v ∧ Dp K H v d
  | _, _, i, d, .nil, e => by simp at e
  | _, _, 0, d, .cons h _, e => ⟨_, rfl, by simp at e; rw [← e]; exact h⟩
  | _, _, i + 1, d, .cons _ h, e => by
    obtain ⟨v, h1, h2⟩ := dpA_at (i := i) h (by simpa using e)
    exact ⟨v, by simpa using h1, h2⟩
theorem dpA_at' : ∀ {vs : List V} {ds : List PyData} {i : Nat} {v : V}, DpAll K H vs ds → vs[i]? = some v → ∃ d, ds[i]? = some d ∧ Dp K H v d
  | _, _, i, d, .nil, e => by simp at e
  | _, _, 0, d, .cons h _, e => ⟨_, rfl, by simp at e; rw [← e]; exact h⟩
  | _, _, i + 1, d, .cons _ h, e => by
    obtain ⟨v, h1, h2⟩ := dpA_at' (i := i) h (by simpa using e)
    exact ⟨v, by simpa using h1, h2⟩
theorem dpA_app : ∀ {vs ws : List V} {ds es : List PyData}, DpAll K H vs ds → DpAll K H ws es → DpAll K H (vs ++ ws) (ds ++ es)
  | _, _, _, _, .nil, k => k
  | _, _, _, _, .cons h t, k => .cons h (dpA_app t k)
theorem dpA_drop : ∀ {vs : List V} {ds : List PyData} (n : Nat), DpAll K H vs ds → DpAll K H (vs.drop n) (ds.drop n)
  | _, _, 0, h => h
  | _, _, _ + 1, .nil => .nil
  | _, _, n + 1, .cons _ h => dpA_drop n h
theorem dpA_take : ∀ {vs : List V} {ds : List PyData} (n : Nat), DpAll K H vs ds → DpAll K H (vs.take n) (ds.take n)
  | _, _, 0, _ => .nil
  | _, _, _ + 1, .nil => .nil
  | _, _, n + 1, .cons h t => .cons h (dpA_take n t)
theorem dp_tup {v : V} {ds : List PyData} (h : Dp K H v (.tuple ds)) : ∃ a xs, v = .ref a ∧ SqT K H a xs ∧ DpAll K H xs ds := by
  cases h with
  | tup hs ha => exact ⟨_, _, rfl, hs, ha⟩
theorem dp_lst {v : V} {ds : List PyData} (h : Dp K H v (.list ds)) : ∃ a xs, v = .ref a ∧ SqL K H a xs ∧ DpAll K H xs ds := by
  cases h with
  | lst hs ha => exact ⟨_, _, rfl, hs, ha⟩
theorem dp_int {v : V} {i : Int} (h : Dp K H v (.int i)) : v = .int i := by cases h; rfl
theorem dp_str {v : V} {x : Str} (h : Dp K H v (.str x)) : v = .str x := by cases h; rfl
theorem dp_bl {v : V} {b : Bool} (h : Dp K H v (.bool b)) : v = .bl b := by cases h; rfl
theorem dpA_nil {vs : List V} (h : DpAll K H vs []) : vs = [] := by cases h; rfl
theorem dpA_cons {vs : List V} {d : PyData} {ds : List PyData} (h : DpAll K H vs (d :: ds)) : ∃ v ws, vs = v :: ws ∧ Dp K H v d ∧ DpAll K H ws ds := by
  cases h with
  | cons h1 h2 => exact ⟨_, _, rfl, h1, h2⟩
theorem dp_t1 {v : V} {d : PyData} (h : Dp K H v (.tuple [d])) : ∃ a x, v = .ref a ∧ SqT K H a [x] ∧ Dp K H x d := by
  obtain ⟨a, xs, rfl, hs, ha⟩ := dp_tup h
  obtain ⟨x, ws, rfl, h1, h2⟩ := dpA_cons ha
  cases dpA_nil h2
  exact ⟨a, x, rfl, hs, h1⟩
theorem dp_t2 {v : V} {d e : PyData} (h : Dp K H v (.tuple [d, e])) : ∃ a x y, v = .ref a ∧ SqT K H a [x, y] ∧ Dp K H x d ∧ Dp K H y e := by
  obtain ⟨a, xs, rfl, hs, ha⟩ := dp_tup h
  obtain ⟨x, ws, rfl, h1, h2⟩ := dpA_cons ha
  obtain ⟨y, ws, rfl, h3, h4⟩ := dpA_cons h2
  cases dpA_nil h4
  exact ⟨a, x, y, rfl, hs, h1, h3⟩
theorem dp_t3 {v : V} {d e f : PyData} (h : Dp K H v (.tuple [d, e, f])) : ∃ a x y z, v = .ref a ∧ SqT K H a [x, y, z] ∧ Dp K H x d ∧ Dp K H y e ∧ Dp K H z f := by
  obtain ⟨a, xs, rfl, hs, ha⟩ := dp_tup h
  obtain ⟨x, ws, rfl, h1, h2⟩ := dpA_cons ha
  obtain ⟨y, ws, rfl, h3, h4⟩ := dpA_cons h2
  obtain ⟨z, ws, rfl, h5, h6⟩ := dpA_cons h4
  cases dpA_nil h6
  exact ⟨a, x, y, z, rfl, hs, h1, h3, h5⟩
theorem dp_t4 {v : V} {d e f g : PyData} (h : Dp K H v (.tuple [d, e, f, g])) : ∃ a x y z t, v = .ref a ∧ SqT K H a [x, y, z, t] ∧ Dp K H x d ∧ Dp K H y e ∧ Dp K H z f ∧ Dp K H t g := by
  obtain ⟨a, xs, rfl, hs, ha⟩ := dp_tup h
  obtain ⟨x, ws, rfl, h1, h2⟩ := dpA_cons ha
  obtain ⟨y, ws, rfl, h3, h4⟩ := dpA_cons h2
  obtain ⟨z, ws, rfl, h5, h6⟩ := dpA_cons h4
  obtain ⟨t, ws, rfl, h7, h8⟩ := dpA_cons h6
  cases dpA_nil h8
  exact ⟨a, x, y, z, t, rfl, hs, h1, h3, h5, h7⟩
theorem dp_new {xs : List V} {ds : List PyData} (e : H a = some (.tup xs)) (h : DpAll K H xs ds) : Dp K H (.ref a) (.tuple ds) := .tup (SqT.of e) h
end
theorem Opd.tu : ∀ a : Opd, Sv.tu a.enc = true
  | .nm _ => rfl
  | .num _ => rfl
theorem Val.tu : ∀ a : Val, Sv.tu a.enc = true
  | .as a => by simp [Val.enc, Sv.tu, tuA, a.tu]
  | .bin o a b => by simp [Val.enc, Sv.tu, tuA, a.tu, b.tu]
theorem Pair.tu (p : Pair) : Sv.tu p.enc = true := by simp [Pair.enc, Sv.tu, tuA, p.a.tu, p.b.tu]
theorem Cnd.tu : ∀ c : Cnd, Sv.tu c.enc = true
  | .pair p => p.tu
  | .not c => by simp [Cnd.enc, Sv.tu, tuA, c.tu]
  | .bin k c d => by simp [Cnd.enc, Sv.tu, tuA, c.tu, d.tu]
mutual
theorem Stm.tu : ∀ s : Stm, Sv.tu s.enc = true
  | .set x v => by simp [Stm.enc, Sv.tu, tuA, v.tu]
  | .give a => by simp [Stm.enc, Sv.tu, tuA, a.tu]
  | .skip => by simp [Stm.enc, Sv.tu, tuA]
  | .brk => by simp [Stm.enc, Sv.tu, tuA]
  | .nxt => by simp [Stm.enc, Sv.tu, tuA]
  | .ifs c b1 b2 => by simp [Stm.enc, Sv.tu, tuA, c.tu, b1.tuA, b2.tuA]
  | .while c b => by simp [Stm.enc, Sv.tu, tuA, c.tu, b.tuA]
  | .loop b => by simp [Stm.enc, Sv.tu, tuA, b.tuA]
theorem Blk.tuA : ∀ b : Blk, Sv.tuA b.encs = true
  | .nil => by rw [Blk.encs]; rfl
  | .cons s b => by rw [Blk.encs, Sv.tuA, s.tu, b.tuA]; rfl
end
theorem Blk.tu (b : Blk) : Sv.tu b.enc = true := by rw [Blk.enc, Sv.tu]; exact b.tuA
theorem Deed.tu : ∀ d : Deed, Sv.tu d.enc = true
  | .test p t => by simp [Deed.enc, Sv.tu, tuA, p.tu]
  | .skip => by simp [Deed.enc, Sv.tu, tuA]
  | .set x v => by simp [Deed.enc, Sv.tu, tuA, v.tu]
  | .give a => by simp [Deed.enc, Sv.tu, tuA, a.tu]
theorem Edge.tu (e : Edge) : Sv.tu e.enc = true := by simp [Edge.enc, Sv.tu, tuA, e.deed.tu]
end Sv
end
section
set_option Elab.async false
set_option linter.all false
set_option autoImplicit false
set_option maxRecDepth 100000
/-! W1: the pen. -/
namespace Sv
open PySem PySem.Spec PyProof.Rows L2
open C8 (pe_c pe_mt pe_mt0 pe_mk pe_gc)

/-! ### the pen -/
def penK (l : Addr) (a d c f : Int) : List (Key × V) := [(Sum.inr "cells", .ref l), (Sum.inr "at", .int a), (Sum.inr "digits", .int d), (Sum.inr "count", .int c), (Sum.inr "fold", .int f)]
theorem penK_len {l : Addr} {a d c f : Int} : (penK l a d c f).length < sizeLine := by show 5 < sizeLine; decide
/-- a pen: its dict, its cells -/
structure Pn where
  a : Addr
  l : Addr
instance : Coe Pn Addr := ⟨Pn.a⟩
structure PenS (H : Hp) (p : Pn) (n : Nat) (a d c f : Int) (cells : List Int) : Prop where
  hp : H p.a = some (.dK (penK p.l a d c f))
  hl : H p.l = some (.lst (cells.map V.int))
  a0 : 0 ≤ a
  a1 : a ≤ cells.length
  d0 : 0 ≤ d
  c0 : 0 ≤ c
  c1 : c ≤ n
  f0 : 0 ≤ f
  f1 : f < 2 ^ 31
structure PenAt (H : Hp) (p : Pn) (n : Nat) : Prop where
  ex : ∃ a d c f cells, PenS H p n a d c f cells
section
variable {H H' : Hp} {p : Pn} {n m : Nat} {a d c f : Int} {cells : List Int} {K : PySem.W.Frag}
theorem PenS.frees (h : PenS H p n a d c f cells) : FreeS [p] H := fun b hb => by
  rw [List.mem_singleton] at hb
  rw [hb, h.hp]
  rfl
theorem PenAt.frees (h : PenAt H p n) : FreeS [p] H := by
  obtain ⟨a, d, c, f, cells, h⟩ := h.ex
  exact h.frees
theorem PenAt.dK (h : PenAt H p n) : ∃ kvs, H p = some (.dK kvs) := by
  obtain ⟨a, d, c, f, cells, h⟩ := h.ex
  exact ⟨_, h.hp⟩
theorem PenAt.le (h : PenAt H p n) (hm : n ≤ m) : PenAt H p m := by
  obtain ⟨a, d, c, f, cells, h⟩ := h.ex
  exact ⟨a, d, c, f, cells, h.hp, h.hl, h.a0, h.a1, h.d0, h.c0, Int.le_trans h.c1 (by omega), h.f0, h.f1⟩
/-- the pen stands while others are written -/
theorem PenAt.keep {M : List Addr} (h : PenAt H p n) (k : Kp M H H') (hM : p.a ∉ M) (hL : p.l ∉ M) : PenAt H' p n := by
  obtain ⟨a, d, c, f, cells, h⟩ := h.ex
  exact ⟨a, d, c, f, cells, k _ _ hM h.hp, k _ _ hL h.hl, h.a0, h.a1, h.d0, h.c0, h.c1, h.f0, h.f1⟩
theorem PenAt.new {q : Addr} {o : HO} (h : PenAt H p n) (hq : H q = none) : PenAt (upd H q o) p n := h.keep (M := []) (Kp.new hq) (by simp) (by simp)
theorem PenAt.kp0 (h : PenAt H p n) (k : Kp [] H H') : PenAt H' p n := h.keep k (by simp) (by simp)
/-- what was not there when the pen was is none of it -/
theorem PenAt.not (h : PenAt H p n) {q : Addr} (hq : H q = none) : p.a ∉ [q] ∧ p.l ∉ [q] := by
  obtain ⟨a, d, c, f, cells, h⟩ := h.ex
  constructor
  · intro z
    rw [List.mem_singleton] at z
    rw [← z, h.hp] at hq
    cases hq
  · intro z
    rw [List.mem_singleton] at z
    rw [← z, h.hl] at hq
    cases hq
end
theorem noP {p : Pn} {H : Hp} {n : Nat} (h : PenAt H p n) {xs : List V} : H p ≠ some (.lst xs) := by
  obtain ⟨kvs, e⟩ := h.dK
  rw [e]
  intro z
  cases z

def penMax : Nat := 1000000
/-- a draw: any number below many -/
def spDraw : Sp := fun vs H Q _ => ∃ (p : Pn) (m : Int) (n : Nat), vs = [.ref p, .int m] ∧ PenAt H p n ∧ n < penMax ∧ 0 < m ∧ m < 1073741824 ∧
  ∀ (r : Int) (H' : Hp), 0 ≤ r → r < m → Kp [p] H H' → PenAt H' p (n + 1) → Q (.int r) H'
theorem sc_draw : FnScope ["_law_pen_here", "_law_many", "_law_cell", "_law_digit", "_law_mixed"] ["_law_pen_here", "_law_many"] (C8.fnScope (topS 60)) := C8.fnScope_by (by decide +kernel)
section
variable {P : Program} {w : World} {K : PySem.W.Frag} {mg : Str → Option Value} {base : Heap}
theorem kp_in {M : List Addr} {p : Addr} (h : p ∈ M) {H : Hp} {o : HO} : Kp M H (upd H p o) := Kp.put h
set_option maxHeartbeats 1000000
theorem draw_ok (T : Txt K mg) : C8.Cal P w K mg base 1 "_law_draw" spDraw [] := by
  have nd := sc_draw.nd
  refine calD T.d__law_draw sc_draw (fun vs H Q E h => ?_) (fun f cdv A outer s H vs Q E hr h => ?_)
  · obtain ⟨p, m, n, rfl, _⟩ := h
    rfl
  obtain ⟨p, m, n, rfl, hP, hn, m0, m1, q⟩ := h
  have hu := hu_of hr
  refine ⟨_, (C8.pss_cut (ps_dput hu (pv 0) pe_str (pe_op op_add (pe_dget hu (pv 0) pe_str (fun _ _ => rfl)) pe_int) rfl)
  (C8.pss_cut (ps_if (PW.pt (pw_and (pt_cmpR op_eq (pe_dget hu (pv 0) pe_str (fun _ _ => rfl)) pe_int (nomark _)) (pw_and1 (pt_cmpR op_lt (pe_dget hu (pv 0) pe_str (fun _ _ => rfl)) (pe_callB call_len_seq (by rfl) T.z_len PySem.boot_len (pa_cons (pe_dget hu (pv 0) pe_str (fun _ _ => rfl)) pa_nil)) (nomark _))))) (pss_cons (ps_asg (pe_ix ix_list (pe_dget hu (pv 0) pe_str (fun _ _ => rfl)) (pe_dget hu (pv 0) pe_str (fun _ _ => rfl)) (fun _ _ => rfl)) (pg_name (i := 2) nd rfl (Or.inl rfl)))
  (pss_cons (ps_dput hu (pv 0) pe_str (pe_op op_add (pe_dget hu (pv 0) pe_str (fun _ _ => rfl)) pe_int) rfl)
  (pss_one (ps_if (pt_cmpR op_ge (pv 2) (pe_op op_pow pe_int pe_int) (nomark _)) (pss_one (ps_dput hu (pv 0) pe_str (pe_op op_sub (pv 2) (pe_op op_pow pe_int pe_int)) rfl)) (pss_one (ps_dput hu (pv 0) pe_str (pe_op op_mod (pe_callTy call_int1 (by rfl) T.z_int (by decide +kernel) (pa_cons (pe_op op_add (pe_op op_mul (pe_dget hu (pv 0) pe_str (fun _ _ => rfl)) pe_int) (pv 2)) pa_nil)) pe_int) rfl)))))) pss_nil)
  (pss_cons (ps_if (pt_cmpR op_gt (pe_dget hu (pv 0) pe_str (fun _ _ => rfl)) pe_int (nomark _)) (pss_cons (ps_asg (pe_op op_mod (pe_callTy call_int1 (by rfl) T.z_int (by decide +kernel) (pa_cons (pe_dget hu (pv 0) pe_str (fun _ _ => rfl)) pa_nil)) (pv 1)) (pg_name (i := 3) nd rfl (Or.inl rfl)))
  (pss_cons (ps_dput hu (pv 0) pe_str (pe_op op_fdiv (pe_dget hu (pv 0) pe_str (fun _ _ => rfl)) (pv 1)) rfl)
  (pss_one (ps_ret (pv 3))))) pss_nil)
  (pss_cons (ps_asg (pe_op op_add (pe_op op_add (pe_dget hu (pv 0) pe_str (fun _ _ => rfl)) (pe_op op_mul (pe_dget hu (pv 0) pe_str (fun _ _ => rfl)) pe_int)) pe_int) (pg_name (i := 4) nd rfl (Or.inl rfl)))
  (pss_one (ps_ret (pe_op op_mod (pe_op op_fdiv (pe_callTy call_int1 (by rfl) T.z_int (by decide +kernel) (pa_cons (pe_op op_mod (pe_op op_pow (pv 4) pe_int) pe_int) pa_nil)) pe_int) (pv 1)))))))), ?_⟩
  obtain ⟨a, d, c, f, cells, hp⟩ := hP.ex
  -- count + 1
  refine ⟨fun σ' H' => σ' = [some (.ref p), some (.int m), none, none, none] ∧ Kp [p] H H' ∧ PenS H' p (n + 1) a d (c + 1) f cells ∧ 1 ≤ c + 1, ?_, ?_⟩
  · refine ⟨_, rfl, p.a, _, rfl, DGet.k (k := Sum.inr "count") hp.hp, ?_⟩
    refine ⟨_, _, rfl, rfl, ?_⟩
    refine ⟨_, rfl, p.a, _, rfl, DPut.k (k := Sum.inr "count") hp.hp penK_len, ?_⟩
    have nl : p.l ≠ p.a := ne_of hp.hl hp.hp (by intro z; cases z)
    refine ⟨rfl, kp_in (by simp), ⟨upd_same, by rw [upd_ne nl]; exact hp.hl, hp.a0, hp.a1, hp.d0, by have := hp.c0; omega, by have := hp.c1; omega, hp.f0, hp.f1⟩, by have := hp.c0; omega⟩
  rintro _ H1 ⟨rfl, k1, hp1, c1⟩
  refine ⟨fun σ' H' => ∃ v, σ' = [some (.ref p), some (.int m), v, none, none] ∧ Kp [p] H H' ∧ ∃ a d f, PenS H' p (n + 1) a d (c + 1) f cells, ?_, ?_⟩
  · refine ⟨_, rfl, p.a, _, rfl, DGet.k (k := Sum.inr "digits") hp1.hp, rfl, _, rfl, ?_⟩
    refine ite2 (fun e0 => ?_) (fun _ => ?_)
    · refine ⟨_, rfl, p.a, _, rfl, DGet.k (k := Sum.inr "at") hp1.hp, ?_⟩
      refine ⟨_, rfl, p.a, _, rfl, DGet.k (k := Sum.inr "cells") hp1.hp, p.l, _, rfl, .inl (SqL.of hp1.hl), _, _, rfl, rfl, _, rfl, ?_⟩
      refine ite2 (fun e1 => ?_) (fun _ => ?_)
      · have e2 : a < ((cells.map V.int).length : Nat) := of_decide_eq_true e1
        rw [List.length_map] at e2
        have ha : a.toNat < cells.length := by have := hp1.a0; omega
        have hat : atI (cells.map V.int) a = some (.int cells[a.toNat]) := by
          have z : atI (cells.map V.int) ((a.toNat : Nat) : Int) = some (.int cells[a.toNat]) := atI_nat (by rw [List.getElem?_map, List.getElem?_eq_getElem ha]; rfl)
          have ez : ((a.toNat : Nat) : Int) = a := by have := hp1.a0; omega
          rw [ez] at z
          exact z
        refine ⟨_, rfl, p.a, _, rfl, DGet.k (k := Sum.inr "cells") hp1.hp, _, rfl, p.a, _, rfl, DGet.k (k := Sum.inr "at") hp1.hp, p.l, _, _, _, rfl, rfl, SqL.of hp1.hl, hat, ?_⟩
        refine ⟨_, rfl, p.a, _, rfl, DGet.k (k := Sum.inr "at") hp1.hp, _, _, rfl, rfl, ?_⟩
        refine ⟨_, rfl, p.a, _, rfl, DPut.k (k := Sum.inr "at") hp1.hp penK_len, ?_⟩
        have nl : p.l ≠ p.a := ne_of hp1.hl hp1.hp (by intro z; cases z)
        have hp2 : PenS (upd H1 p (.dK (penK p.l (a + 1) d (c + 1) f))) p (n + 1) (a + 1) d (c + 1) f cells := ⟨upd_same, by rw [upd_ne nl]; exact hp1.hl, by have := hp1.a0; omega, by omega, hp1.d0, hp1.c0, hp1.c1, hp1.f0, hp1.f1⟩
        refine ⟨_, rfl, _, _, rfl, rfl, ⟨by decide, by decide, by decide⟩, _, _, rfl, rfl, _, rfl, ?_⟩
        refine ite2 (fun e3 => ?_) (fun e3 => ?_)
        · have e4 := of_decide_eq_true e3
          refine ⟨_, rfl, _, _, rfl, rfl, ⟨by decide, by decide, by decide⟩, _, _, rfl, rfl, ?_⟩
          refine ⟨_, rfl, p.a, _, rfl, DPut.k (k := Sum.inr "digits") hp2.hp penK_len, ?_⟩
          refine ⟨_, rfl, k1.trans ((kp_in (by simp)).trans (kp_in (by simp))), a + 1, cells[a.toNat] - 10 ^ (18 : Int).toNat, f, upd_same, by rw [upd_ne nl]; exact hp2.hl, hp2.a0, hp2.a1, by omega, hp2.c0, hp2.c1, hp2.f0, hp2.f1⟩
        · refine ⟨_, rfl, p.a, _, rfl, DGet.k (k := Sum.inr "fold") hp2.hp, _, _, rfl, rfl, .inl ⟨by have := hp2.f0; omega, by have := hp2.f1; omega⟩, _, rfl, _, _, rfl, rfl, .inl ⟨_, rfl, ?_⟩⟩
          refine ⟨_, _, rfl, rfl, (by show (0 : Int) < 2147483587; decide), ?_⟩
          refine ⟨_, rfl, p.a, _, rfl, DPut.k (k := Sum.inr "fold") hp2.hp penK_len, ?_⟩
          refine ⟨_, rfl, k1.trans ((kp_in (by simp)).trans (kp_in (by simp))), a + 1, d, (f * 22695477 + cells[a.toNat]) % 2147483587, upd_same, by rw [upd_ne nl]; exact hp2.hl, hp2.a0, hp2.a1, hp2.d0, hp2.c0, hp2.c1, by omega, by omega⟩
      · exact ⟨_, rfl, k1, a, d, f, hp1⟩
    · exact ⟨_, rfl, k1, a, d, f, hp1⟩
  rintro _ H2 ⟨v, rfl, k2, a, d, f, hp2⟩
  have nl : p.l ≠ p.a := ne_of hp2.hl hp2.hp (by intro z; cases z)
  refine ⟨_, rfl, p.a, _, rfl, DGet.k (k := Sum.inr "digits") hp2.hp, _, _, rfl, rfl, _, rfl, ?_⟩
  refine ite2 (fun e1 => ?_) (fun _ => ?_)
  · refine ⟨_, rfl, p.a, _, rfl, DGet.k (k := Sum.inr "digits") hp2.hp, .inl ⟨_, rfl, ?_⟩⟩
    refine ⟨_, rfl, _, _, rfl, rfl, m0, ?_⟩
    refine ⟨_, rfl, p.a, _, rfl, DGet.k (k := Sum.inr "digits") hp2.hp, _, rfl, _, _, rfl, rfl, ⟨m0, m1⟩, ?_⟩
    refine ⟨_, rfl, p.a, _, rfl, DPut.k (k := Sum.inr "digits") hp2.hp penK_len, ?_⟩
    refine ⟨_, rfl, ?_⟩
    exact q _ _ (Int.emod_nonneg _ (by omega)) (Int.emod_lt_of_pos _ m0) (k2.trans (kp_in (by simp))) ⟨a, d / m, c + 1, f, cells, upd_same, by rw [upd_ne nl]; exact hp2.hl, hp2.a0, hp2.a1, Int.ediv_nonneg hp2.d0 (by omega), hp2.c0, hp2.c1, hp2.f0, hp2.f1⟩
  · refine ⟨_, rfl, p.a, _, rfl, DGet.k (k := Sum.inr "fold") hp2.hp, ?_⟩
    refine ⟨_, rfl, p.a, _, rfl, DGet.k (k := Sum.inr "count") hp2.hp, ?_⟩
    have cb : c + 1 ≤ 1000000 := by
      have := hp2.c1
      unfold penMax at hn
      omega
    refine ⟨_, _, rfl, rfl, .inl ⟨by omega, by omega⟩, _, _, rfl, rfl, _, _, rfl, rfl, ?_⟩
    have b0 : 0 ≤ f + (c + 1) * 8011 + 43 := by
      have := hp2.f0
      omega
    have b1 : f + (c + 1) * 8011 + 43 < 2 ^ 64 := by
      have := hp2.f1
      omega
    refine ⟨_, rfl, _, _, rfl, rfl, ⟨by decide, by decide, by omega⟩, ?_⟩
    refine ⟨_, _, rfl, rfl, (by show (0 : Int) < 2305843009213693951; decide), .inl ⟨_, rfl, ?_⟩⟩
    refine ⟨_, _, rfl, rfl, ⟨by decide, by decide⟩, ?_⟩
    refine ⟨_, rfl, _, _, rfl, rfl, m0, ?_⟩
    exact q _ _ (Int.emod_nonneg _ (by omega)) (Int.emod_lt_of_pos _ m0) k2 ⟨a, d, c + 1, f, cells, hp2⟩
end
end Sv
end
section
set_option Elab.async false
set_option linter.all false
set_option autoImplicit false
set_option maxRecDepth 100000
/-! W2: the drawn programs. -/
namespace Sv
open PySem PySem.Spec PyProof.Rows L2
open C8 (pe_c pe_mt pe_mt0 pe_mk pe_gc)

def Opd.v : Opd → V
  | .nm x => .str x
  | .num i => .int i
theorem Opd.dp {K : PySem.W.Frag} {H : Hp} : ∀ o : Opd, Dp K H o.v o.enc
  | .nm x => .str x
  | .num i => .int i
section
variable {H H' : Hp} {p : Pn} {a : Addr} {n m : Nat} {xs : List V} {K : PySem.W.Frag}
theorem PenAt.l (h : PenAt H p n) (k : Kp [p] H H') (e : H a = some (.lst xs)) : H' a = some (.lst xs) := k _ _ (fun z => by
  rw [List.mem_singleton] at z
  rw [z] at e
  exact noP h e) e
end
theorem sm {n : Nat} (h : n ≤ 100000) : n ≤ sizeLine := Nat.le_trans h (by decide)
/-- a list's item, drawn -/
def spPick (K : PySem.W.Frag) : Sp := fun vs H Q _ => ∃ (p : Pn) (a : Addr) (xs : List V) (n : Nat), vs = [.ref p, .ref a] ∧ SqL K H a xs ∧ 0 < xs.length ∧ xs.length < 1000000 ∧ PenAt H p n ∧ n < penMax ∧
  ∀ (v : V) (H' : Hp), v ∈ xs → Kp [p] H H' → PenAt H' p (n + 1) → Q v H'
def spOperand : Sp := fun vs H Q _ => ∃ (p : Pn) (a : Addr) (N : List Str) (n : Nat), vs = [.ref p, .ref a] ∧ H a = some (.lst (N.map V.str)) ∧ N.length ≤ 3 ∧ PenAt H p n ∧ n + 2 ≤ penMax ∧
  ∀ (o : Opd) (H' : Hp), o.ok N → Kp [p] H H' → PenAt H' p (n + 2) → Q o.v H'
def spValue (K : PySem.W.Frag) : Sp := fun vs H Q _ => ∃ (p : Pn) (a : Addr) (N : List Str) (n : Nat), vs = [.ref p, .ref a] ∧ H a = some (.lst (N.map V.str)) ∧ N.length ≤ 3 ∧ PenAt H p n ∧ n + 5 ≤ penMax ∧
  ∀ (o : Val) (v : V) (H' : Hp), o.ok N → Dp K H' v o.enc → Kp [p] H H' → PenAt H' p (n + 5) → Q v H'
def spPair (K : PySem.W.Frag) : Sp := fun vs H Q _ => ∃ (p : Pn) (a : Addr) (N : List Str) (n : Nat), vs = [.ref p, .ref a] ∧ H a = some (.lst (N.map V.str)) ∧ N.length ≤ 3 ∧ PenAt H p n ∧ n + 5 ≤ penMax ∧
  ∀ (o : Pair) (v : V) (H' : Hp), o.ok N → Dp K H' v o.enc → Kp [p] H H' → PenAt H' p (n + 5) → Q v H'
def spCond (K : PySem.W.Frag) : Sp := fun vs H Q _ => ∃ (p : Pn) (a : Addr) (N : List Str) (n : Nat), vs = [.ref p, .ref a] ∧ H a = some (.lst (N.map V.str)) ∧ N.length ≤ 3 ∧ PenAt H p n ∧ n + 13 ≤ penMax ∧
  ∀ (o : Cnd) (v : V) (H' : Hp), o.ok N → o.parts ≤ 5 → o.dp ≤ 3 → Dp K H' v o.enc → Kp [p] H H' → PenAt H' p (n + 13) → Q v H'
def spPlain (K : PySem.W.Frag) : Sp := fun vs H Q _ => ∃ (p : Pn) (a : Addr) (l : Bool) (N : List Str) (n : Nat), vs = [.ref p, .ref a, .bl l] ∧ H a = some (.lst (N.map V.str)) ∧ 0 < N.length ∧ N.length ≤ 3 ∧ PenAt H p n ∧ n + 7 ≤ penMax ∧
  ∀ (o : Stm) (v : V) (H' : Hp), o.ok N l → o.dp ≤ 2 → o.size = 1 → Dp K H' v o.enc → Kp [p] H H' → PenAt H' p (n + 7) → Q v H'

theorem sc_pick : FnScope ["_law_pen_here", "_law_some"] ["_law_pen_here", "_law_some"] (C8.fnScope (topS 61)) := C8.fnScope_by (by decide +kernel)
theorem sc_opd : FnScope ["_law_pen_here", "_law_names"] ["_law_pen_here", "_law_names"] (C8.fnScope (topS 65)) := C8.fnScope_by (by decide +kernel)
theorem sc_val : FnScope ["_law_pen_here", "_law_names", "_law_word", "_law_one"] ["_law_pen_here", "_law_names"] (C8.fnScope (topS 66)) := C8.fnScope_by (by decide +kernel)
theorem sc_pair : FnScope ["_law_pen_here", "_law_names"] ["_law_pen_here", "_law_names"] (C8.fnScope (topS 67)) := C8.fnScope_by (by decide +kernel)
theorem sc_cond : FnScope ["_law_pen_here", "_law_names", "_law_way", "_law_first"] ["_law_pen_here", "_law_names"] (C8.fnScope (topS 68)) := C8.fnScope_by (by decide +kernel)
theorem sc_plain : FnScope ["_law_pen_here", "_law_names", "_law_is_in_loop", "_law_way"] ["_law_pen_here", "_law_names", "_law_is_in_loop"] (C8.fnScope (topS 69)) := C8.fnScope_by (by decide +kernel)
section
variable {P : Program} {w : World} {K : PySem.W.Frag} {mg : Str → Option Value} {base : Heap}
set_option maxHeartbeats 1000000
theorem pick_ok (T : Txt K mg) : C8.Cal P w K mg base 2 "_law_pick" (spPick K) [] := by
  have nd := sc_pick.nd
  have c__law_draw := draw_ok (P := P) (w := w) (base := base) T
  refine calD T.d__law_pick sc_pick (fun vs H Q E h => ?_) (fun f cdv A outer s H vs Q E hr h => ?_)
  · obtain ⟨p, a, xs, n, rfl, _⟩ := h
    rfl
  obtain ⟨p, a, xs, n, rfl, hS, l0, l1, hP, hn, q⟩ := h
  have hu := hu_of hr
  refine ⟨_, (pss_one (ps_ret (pe_ix ix_list (pv 1) (pe_c c__law_draw hr (by omega) rfl (pa_cons (pv 0) (pa_cons (pe_callB call_len_seq (by rfl) T.z_len PySem.boot_len (pa_cons (pv 1) pa_nil)) pa_nil))) (fun _ _ => rfl)))), ?_⟩
  refine ⟨_, rfl, _, rfl, _, rfl, a, _, rfl, .inl hS, ?_⟩
  refine ⟨p, _, n, rfl, hP, hn, by omega, by omega, fun r H' r0 r1 k hP' => ?_⟩
  have hr' : r.toNat < xs.length := by omega
  have hat : atI xs r = some xs[r.toNat] := by
    have z : atI xs ((r.toNat : Nat) : Int) = some xs[r.toNat] := atI_nat (by rw [List.getElem?_eq_getElem hr'])
    have ez : ((r.toNat : Nat) : Int) = r := by omega
    rw [ez] at z
    exact z
  exact ⟨a, xs, r, _, rfl, rfl, k.sqL hP.frees hS, hat, q _ _ (List.getElem_mem _) k hP'⟩
theorem opd_ok (T : Txt K mg) : C8.Cal P w K mg base 3 "_law_some_operand" spOperand [] := by
  have nd := sc_opd.nd
  have c__law_draw := draw_ok (P := P) (w := w) (base := base) T
  have c__law_pick := pick_ok (P := P) (w := w) (base := base) T
  refine calD T.d__law_some_operand sc_opd (fun vs H Q E h => ?_) (fun f cdv A outer s H vs Q E hr h => ?_)
  · obtain ⟨p, a, N, n, rfl, _⟩ := h
    rfl
  obtain ⟨p, a, N, n, rfl, hN, hl, hP, hn, q⟩ := h
  have hu := hu_of hr
  have nl : (N.map V.str).length = N.length := List.length_map _
  refine ⟨_, (pss_one (ps_ret (pe_c c__law_pick hr (by omega) rfl (pa_cons (pv 0) (pa_cons (pe_op op_cat (pe_op op_cat (pv 1) (pv 1)) (pe_lst (pa_cons (pe_op op_sub (pe_c c__law_draw hr (by omega) rfl (pa_cons (pv 0) (pa_cons pe_int pa_nil))) pe_int) pa_nil))) pa_nil))))), ?_⟩
  refine ⟨_, rfl, _, rfl, _, rfl, a, a, _, _, rfl, rfl, hN, hN, sm (by omega), fun t ht => ?_⟩
  refine ⟨_, rfl, p, _, n, rfl, hP.new ht, by omega, by decide, by decide, fun r H1 r0 r1 k1 hP1 => ?_⟩
  refine ⟨_, _, rfl, rfl, (by show 1 ≤ sizeLine; decide), fun u hu1 => ?_⟩
  have ht1 : H1 t = some (.lst (N.map V.str ++ N.map V.str)) := (hP.new ht).l k1 upd_same
  refine ⟨t, u, _, _, rfl, rfl, by rw [upd_ne (ne_of_none ht1 hu1)]; exact ht1, upd_same, sm (by rw [List.length_append]; simp; omega), fun z hz => ?_⟩
  refine ⟨p, z, _, n + 1, rfl, SqL.of upd_same, by simp only [List.length_append, List.length_cons, List.length_nil]; omega, by simp only [List.length_append, List.length_cons, List.length_nil]; omega, (hP1.new hu1).new hz, by omega, fun v H2 hv k2 hP2 => ?_⟩
  have k : Kp [p] H H2 := (Kp.new ht).trans (k1.trans ((Kp.new hu1).trans ((Kp.new hz).trans k2)))
  simp only [List.append_assoc, List.mem_append, List.mem_map, List.mem_singleton] at hv
  rcases hv with ⟨x, hx, rfl⟩ | ⟨x, hx, rfl⟩ | rfl
  · exact q (.nm x) H2 hx k hP2
  · exact q (.nm x) H2 hx k hP2
  · exact q (.num (r - 4)) H2 ⟨by omega, by omega⟩ k hP2
theorem val_ok (T : Txt K mg) : C8.Cal P w K mg base 4 "_law_some_value" (spValue K) [] := by
  have nd := sc_val.nd
  have c__law_draw := draw_ok (P := P) (w := w) (base := base) T
  have c__law_pick := pick_ok (P := P) (w := w) (base := base) T
  have c__law_some_operand := opd_ok (P := P) (w := w) (base := base) T
  refine calD T.d__law_some_value sc_val (fun vs H Q E h => ?_) (fun f cdv A outer s H vs Q E hr h => ?_)
  · obtain ⟨p, a, N, n, rfl, _⟩ := h
    rfl
  obtain ⟨p, a, N, n, rfl, hN, hl, hP, hn, q⟩ := h
  have hu := hu_of hr
  refine ⟨_, (C8.pss_cut (ps_asg (pe_c c__law_pick hr (by omega) rfl (pa_cons (pv 0) (pa_cons (pe_lst (pa_cons pe_str (pa_cons pe_str (pa_cons pe_str (pa_cons pe_str (pa_cons pe_str pa_nil)))))) pa_nil))) (pg_name (i := 2) nd rfl (Or.inl rfl)))
  (C8.pss_cut (ps_asg (pe_c c__law_some_operand hr (by omega) rfl (pa_cons (pv 0) (pa_cons (pv 1) pa_nil))) (pg_name (i := 3) nd rfl (Or.inl rfl)))
  (pss_cons (ps_if (pt_cmpR op_eq (pv 2) pe_str (nomark _)) (pss_one (ps_ret (pe_tup (pa_cons (pv 2) (pa_cons (pv 3) pa_nil))))) pss_nil)
  (pss_one (ps_ret (pe_tup (pa_cons (pv 2) (pa_cons (pv 3) (pa_cons (pe_ifExp (pt_cmpR op_eq (pv 2) pe_str (nomark _)) (pe_op op_sub (pe_c c__law_draw hr (by omega) rfl (pa_cons (pv 0) (pa_cons pe_int pa_nil))) pe_int) (pe_c c__law_some_operand hr (by omega) rfl (pa_cons (pv 0) (pa_cons (pv 1) pa_nil)))) pa_nil))))))))), ?_⟩
  refine ⟨fun σ' H' => ∃ x, (x = ("as" : Str) ∨ ∃ b : Bop, x = b.word) ∧ σ' = [some (.ref p), some (.ref a), some (.str x), none] ∧ Kp [p] H H' ∧ PenAt H' p (n + 1), ?_, ?_⟩
  · refine ⟨_, rfl, (by show 5 ≤ sizeLine; decide), fun t ht => ?_⟩
    refine ⟨p, t, _, n, rfl, SqL.of upd_same, by show 0 < 5; decide, by show 5 < 1000000; decide, hP.new ht, by omega, fun v H1 hv k1 hP1 => ?_⟩
    have k : Kp [p] H H1 := (Kp.new ht).trans k1
    simp only [List.mem_cons, List.not_mem_nil, or_false] at hv
    rcases hv with rfl | rfl | rfl | rfl | rfl
    · exact ⟨_, .inl rfl, rfl, k, hP1⟩
    · exact ⟨_, .inr ⟨.plus, rfl⟩, rfl, k, hP1⟩
    · exact ⟨_, .inr ⟨.plus, rfl⟩, rfl, k, hP1⟩
    · exact ⟨_, .inr ⟨.less, rfl⟩, rfl, k, hP1⟩
    · exact ⟨_, .inr ⟨.times, rfl⟩, rfl, k, hP1⟩
  rintro _ H1 ⟨x, hx, rfl, k1, hP1⟩
  refine ⟨fun σ' H' => ∃ o : Opd, o.ok N ∧ σ' = [some (.ref p), some (.ref a), some (.str x), some o.v] ∧ Kp [p] H H' ∧ PenAt H' p (n + 3), ?_, ?_⟩
  · refine ⟨_, rfl, _, rfl, p, a, N, n + 1, rfl, hP.l k1 hN, hl, hP1, by omega, fun o H2 ho k2 hP2 => ?_⟩
    exact ⟨o, ho, rfl, k1.trans k2, hP2⟩
  rintro _ H2 ⟨o, ho, rfl, k2, hP2⟩
  refine ⟨_, rfl, rfl, _, rfl, ?_⟩
  refine ite2 (fun e => ?_) (fun e => ?_)
  · have ex : V.str x = V.str "as" := of_decide_eq_true e
    refine ⟨_, rfl, _, rfl, (by show 2 ≤ sizeLine; decide), fun t ht => ?_⟩
    refine q (.as o) _ _ ho ?_ (k2.trans (Kp.new ht)) ((hP2.new ht).le (by omega))
    rw [Val.enc]
    exact dp_new upd_same (.cons (by rw [ex]; exact .str _) (.cons o.dp .nil))
  · rcases hx with rfl | ⟨b, rfl⟩
    · exact absurd rfl e
    refine ⟨_, rfl, _, rfl, _, rfl, rfl, _, rfl, ?_⟩
    refine ite2 (fun e2 => ?_) (fun e2 => ?_)
    · refine ⟨_, rfl, p, _, n + 3, rfl, hP2, by omega, by decide, by decide, fun r H3 r0 r1 k3 hP3 => ?_⟩
      refine ⟨_, _, rfl, rfl, (by show 3 ≤ sizeLine; decide), fun t ht => ?_⟩
      have eb : b = .times := by
        have : V.str b.word = V.str "times" := of_decide_eq_true e2
        have this2 : b.word = Bop.times.word := V.str.inj this
        exact of_decide_eq_true ((bop_word b .times).symm.trans (decide_eq_true this2))
      subst eb
      refine q (.bin .times o (.num (r - 3))) _ _ ⟨ho, by omega, by omega⟩ ?_ (k2.trans (k3.trans (Kp.new ht))) ((hP3.new ht).le (by omega))
      rw [Val.enc]
      exact dp_new upd_same (.cons (.str _) (.cons o.dp (.cons (.int _) .nil)))
    · refine ⟨_, rfl, _, rfl, p, a, N, n + 3, rfl, hP.l k2 hN, hl, hP2, by omega, fun o2 H3 ho2 k3 hP3 => ?_⟩
      refine ⟨(by show 3 ≤ sizeLine; decide), fun t ht => ?_⟩
      have okb : (Val.bin b o o2).ok N := by
        cases b with
        | plus => exact ⟨ho, ho2⟩
        | less => exact ⟨ho, ho2⟩
        | times => exact absurd rfl e2
      refine q (.bin b o o2) _ _ okb ?_ (k2.trans (k3.trans (Kp.new ht))) (hP3.new ht)
      rw [Val.enc]
      exact dp_new upd_same (.cons (.str _) (.cons o.dp (.cons o2.dp .nil)))
theorem pair_ok (T : Txt K mg) : C8.Cal P w K mg base 4 "_law_some_pair" (spPair K) [] := by
  have nd := sc_pair.nd
  have c__law_pick := pick_ok (P := P) (w := w) (base := base) T
  have c__law_some_operand := opd_ok (P := P) (w := w) (base := base) T
  refine calD T.d__law_some_pair sc_pair (fun vs H Q E h => ?_) (fun f cdv A outer s H vs Q E hr h => ?_)
  · obtain ⟨p, a, N, n, rfl, _⟩ := h
    rfl
  obtain ⟨p, a, N, n, rfl, hN, hl, hP, hn, q⟩ := h
  have hu := hu_of hr
  refine ⟨_, (pss_one (ps_ret (pe_tup (pa_cons (pe_c c__law_pick hr (by omega) rfl (pa_cons (pv 0) (pa_cons (pe_lst (pa_cons pe_str (pa_cons pe_str (pa_cons pe_str pa_nil)))) pa_nil))) (pa_cons (pe_c c__law_some_operand hr (by omega) rfl (pa_cons (pv 0) (pa_cons (pv 1) pa_nil))) (pa_cons (pe_c c__law_some_operand hr (by omega) rfl (pa_cons (pv 0) (pa_cons (pv 1) pa_nil))) pa_nil)))))), ?_⟩
  refine ⟨_, rfl, (by show 3 ≤ sizeLine; decide), fun t ht => ?_⟩
  refine ⟨p, t, _, n, rfl, SqL.of upd_same, by show 0 < 3; decide, by show 3 < 1000000; decide, hP.new ht, by omega, fun v H1 hv k1 hP1 => ?_⟩
  have k : Kp [p] H H1 := (Kp.new ht).trans k1
  have hv2 : ∃ pk : Pk, v = .str pk.word := by
    simp only [List.mem_cons, List.not_mem_nil, or_false] at hv
    rcases hv with rfl | rfl | rfl
    · exact ⟨.below, rfl⟩
    · exact ⟨.most, rfl⟩
    · exact ⟨.is, rfl⟩
  obtain ⟨pk, rfl⟩ := hv2
  refine ⟨_, rfl, _, rfl, p, a, N, n + 1, rfl, hP.l k hN, hl, hP1, by omega, fun o H2 ho k2 hP2 => ?_⟩
  refine ⟨_, rfl, _, rfl, p, a, N, n + 3, rfl, hP.l (k.trans k2) hN, hl, hP2, by omega, fun o2 H3 ho2 k3 hP3 => ?_⟩
  refine ⟨(by show 3 ≤ sizeLine; decide), fun u hu1 => ?_⟩
  refine q ⟨pk, o, o2⟩ _ _ ⟨ho, ho2⟩ ?_ (k.trans (k2.trans (k3.trans (Kp.new hu1)))) (hP3.new hu1)
  rw [Pair.enc]
  exact dp_new upd_same (.cons (.str _) (.cons o.dp (.cons o2.dp .nil)))
theorem cond_ok (T : Txt K mg) : C8.Cal P w K mg base 5 "_law_some_condition" (spCond K) [] := by
  have nd := sc_cond.nd
  have c__law_draw := draw_ok (P := P) (w := w) (base := base) T
  have c__law_pick := pick_ok (P := P) (w := w) (base := base) T
  have c__law_some_pair := pair_ok (P := P) (w := w) (base := base) T
  refine calD T.d__law_some_condition sc_cond (fun vs H Q E h => ?_) (fun f cdv A outer s H vs Q E hr h => ?_)
  · obtain ⟨p, a, N, n, rfl, _⟩ := h
    rfl
  obtain ⟨p, a, N, n, rfl, hN, hl, hP, hn, q⟩ := h
  have hu := hu_of hr
  refine ⟨_, (pss_cons (ps_asg (pe_c c__law_draw hr (by omega) rfl (pa_cons (pv 0) (pa_cons pe_int pa_nil))) (pg_name (i := 2) nd rfl (Or.inl rfl)))
  (pss_cons (ps_if (pt_cmpR op_eq (pv 2) pe_int (nomark _)) (pss_one (ps_ret (pe_tup (pa_cons pe_str (pa_cons (pe_c c__law_some_pair hr (by omega) rfl (pa_cons (pv 0) (pa_cons (pv 1) pa_nil))) pa_nil))))) pss_nil)
  (pss_cons (ps_if (pt_cmpR op_in_seq (pv 2) (pe_lst (pa_cons pe_int (pa_cons pe_int pa_nil))) (by rfl)) (pss_cons (ps_asg (pe_c c__law_some_pair hr (by omega) rfl (pa_cons (pv 0) (pa_cons (pv 1) pa_nil))) (pg_name (i := 3) nd rfl (Or.inl rfl)))
  (pss_one (ps_ret (pe_tup (pa_cons (pe_c c__law_pick hr (by omega) rfl (pa_cons (pv 0) (pa_cons (pe_lst (pa_cons pe_str (pa_cons pe_str pa_nil))) pa_nil))) (pa_cons (pe_c c__law_pick hr (by omega) rfl (pa_cons (pv 0) (pa_cons (pe_lst (pa_cons (pv 3) (pa_cons (pe_tup (pa_cons pe_str (pa_cons (pv 3) pa_nil))) pa_nil))) pa_nil))) (pa_cons (pe_c c__law_some_pair hr (by omega) rfl (pa_cons (pv 0) (pa_cons (pv 1) pa_nil))) pa_nil))))))) pss_nil)
  (pss_one (ps_ret (pe_c c__law_some_pair hr (by omega) rfl (pa_cons (pv 0) (pa_cons (pv 1) pa_nil)))))))), ?_⟩
  refine ⟨_, rfl, p, _, n, rfl, hP, by omega, by decide, by decide, fun way H1 r0 r1 k1 hP1 => ?_⟩
  refine ⟨_, rfl, rfl, _, rfl, ?_⟩
  refine ite2 (fun e => ?_) (fun e => ?_)
  · refine ⟨_, rfl, _, rfl, p, a, N, n + 1, rfl, hP.l k1 hN, hl, hP1, by omega, fun o v H2 ho hv k2 hP2 => ?_⟩
    refine ⟨(by show 2 ≤ sizeLine; decide), fun t ht => ?_⟩
    refine q (.not (.pair o)) _ _ ho (by show 2 ≤ 5; decide) (by show 2 ≤ 3; decide) ?_ (k1.trans (k2.trans (Kp.new ht))) ((hP2.new ht).le (by omega))
    exact dp_new upd_same (.cons (.str _) (.cons ((Kp.new (M := []) ht).dp FreeS.nil hv) .nil))
  refine ⟨_, rfl, (by show 2 ≤ sizeLine; decide), fun t ht => ?_⟩
  refine ⟨t, _, rfl, .inl (SqL.of upd_same), rfl, rfl, _, rfl, ?_⟩
  have k1t : Kp [p] H (upd H1 t (.lst [.int 1, .int 2])) := k1.trans (Kp.new ht)
  refine ite2 (fun e2 => ?_) (fun e2 => ?_)
  · refine ⟨_, rfl, _, rfl, p, a, N, n + 1, rfl, hP.l k1t hN, hl, hP1.new ht, by omega, fun o v H2 ho hv k2 hP2 => ?_⟩
    refine ⟨_, rfl, (by show 2 ≤ sizeLine; decide), fun u hu1 => ?_⟩
    refine ⟨p, u, _, n + 6, rfl, SqL.of upd_same, by show 0 < 2; decide, by show 2 < 1000000; decide, hP2.new hu1, by omega, fun word H3 hw k3 hP3 => ?_⟩
    have hw2 : ∃ b : Bool, word = .str (bw b) := by
      simp only [List.mem_cons, List.not_mem_nil, or_false] at hw
      rcases hw with rfl | rfl
      · exact ⟨true, rfl⟩
      · exact ⟨false, rfl⟩
    obtain ⟨b, rfl⟩ := hw2
    have kA : Kp [p] H2 H3 := (Kp.new hu1).trans k3
    have hv3 : Dp K H3 v o.enc := kA.dp hP2.frees hv
    refine ⟨_, rfl, _, rfl, _, rfl, (by show 2 ≤ sizeLine; decide), fun x hx => ?_⟩
    refine ⟨(by show 2 ≤ sizeLine; decide), fun y hy => ?_⟩
    refine ⟨p, y, _, n + 7, rfl, SqL.of upd_same, by show 0 < 2; decide, by show 2 < 1000000; decide, (hP3.new hx).new hy, by omega, fun first H4 hf k4 hP4 => ?_⟩
    have kB : Kp [p] H3 H4 := (Kp.new hx).trans ((Kp.new hy).trans k4)
    have kx : Kp [p] (upd H3 x (.tup [.str "not", v])) H4 := (Kp.new hy).trans k4
    have hf2 : ∃ c : Cnd, c.ok N ∧ c.parts ≤ 2 ∧ c.dp ≤ 2 ∧ Dp K H4 first c.enc := by
      simp only [List.mem_cons, List.not_mem_nil, or_false] at hf
      rcases hf with rfl | rfl
      · exact ⟨.pair o, ho, by show 1 ≤ 2; decide, by show 1 ≤ 2; decide, kB.dp hP3.frees hv3⟩
      · refine ⟨.not (.pair o), ho, by show 2 ≤ 2; decide, by show 2 ≤ 2; decide, kx.dp (hP3.new hx).frees ?_⟩
        exact dp_new upd_same (.cons (.str _) (.cons ((Kp.new (M := []) hx).dp FreeS.nil hv3) .nil))
    obtain ⟨c, c1, c2, c3, hc⟩ := hf2
    have kC : Kp [p] H H4 := k1t.trans (k2.trans (kA.trans kB))
    refine ⟨_, rfl, _, rfl, p, a, N, n + 8, rfl, hP.l kC hN, hl, hP4, by omega, fun o2 v2 H5 ho2 hv2 k5 hP5 => ?_⟩
    refine ⟨(by show 3 ≤ sizeLine; decide), fun z hz => ?_⟩
    refine q (.bin b c (.pair o2)) _ _ ⟨c1, ho2⟩ (by show c.parts + 1 + 1 ≤ 5; omega) (by show max c.dp 1 + 1 ≤ 3; omega) ?_ (kC.trans (k5.trans (Kp.new hz))) (hP5.new hz)
    exact dp_new upd_same (.cons (.str _) (.cons ((Kp.new (M := []) hz).dp FreeS.nil (k5.dp hP4.frees hc)) (.cons ((Kp.new (M := []) hz).dp FreeS.nil hv2) .nil)))
  · refine ⟨_, rfl, _, rfl, p, a, N, n + 1, rfl, hP.l k1t hN, hl, hP1.new ht, by omega, fun o v H2 ho hv k2 hP2 => ?_⟩
    exact q (.pair o) _ _ ho (by show 1 ≤ 5; decide) (by show 1 ≤ 3; decide) hv (k1t.trans k2) (hP2.le (by omega))
theorem plain_ok (T : Txt K mg) : C8.Cal P w K mg base 5 "_law_plain_statement" (spPlain K) [] := by
  have nd := sc_plain.nd
  have c__law_draw := draw_ok (P := P) (w := w) (base := base) T
  have c__law_pick := pick_ok (P := P) (w := w) (base := base) T
  have c__law_some_operand := opd_ok (P := P) (w := w) (base := base) T
  have c__law_some_value := val_ok (P := P) (w := w) (base := base) T
  refine calD T.d__law_plain_statement sc_plain (fun vs H Q E h => ?_) (fun f cdv A outer s H vs Q E hr h => ?_)
  · obtain ⟨p, a, l, N, n, rfl, _⟩ := h
    rfl
  obtain ⟨p, a, l, N, n, rfl, hN, h0, hl, hP, hn, q⟩ := h
  have hu := hu_of hr
  refine ⟨_, (pss_cons (ps_asg (pe_c c__law_draw hr (by omega) rfl (pa_cons (pv 0) (pa_cons pe_int pa_nil))) (pg_name (i := 3) nd rfl (Or.inl rfl)))
  (pss_cons (ps_if (pt_cmpR op_eq (pv 3) pe_int (nomark _)) (pss_one (ps_ret (pe_tup (pa_cons pe_str (pa_cons (pe_c c__law_some_operand hr (by omega) rfl (pa_cons (pv 0) (pa_cons (pv 1) pa_nil))) pa_nil))))) pss_nil)
  (pss_cons (ps_if (pt_cmpR op_eq (pv 3) pe_int (nomark _)) (pss_one (ps_ret (pe_tup (pa_cons pe_str pa_nil)))) pss_nil)
  (pss_cons (ps_if (PW.pt (pw_and (pt_cmpR op_in_seq (pv 3) (pe_lst (pa_cons pe_int (pa_cons pe_int pa_nil))) (by rfl)) (pw_and1 (pt_val (pv 2))))) (pss_one (ps_ret (pe_tup (pa_cons (pe_c c__law_pick hr (by omega) rfl (pa_cons (pv 0) (pa_cons (pe_lst (pa_cons pe_str (pa_cons pe_str pa_nil))) pa_nil))) pa_nil)))) pss_nil)
  (pss_one (ps_ret (pe_tup (pa_cons pe_str (pa_cons (pe_c c__law_pick hr (by omega) rfl (pa_cons (pv 0) (pa_cons (pv 1) pa_nil))) (pa_cons (pe_c c__law_some_value hr (by omega) rfl (pa_cons (pv 0) (pa_cons (pv 1) pa_nil))) pa_nil)))))))))), ?_⟩
  refine ⟨_, rfl, p, _, n, rfl, hP, by omega, by decide, by decide, fun way H1 r0 r1 k1 hP1 => ?_⟩
  refine ⟨_, rfl, rfl, _, rfl, ?_⟩
  refine ite2 (fun e => ?_) (fun e => ?_)
  · refine ⟨_, rfl, _, rfl, p, a, N, n + 1, rfl, hP.l k1 hN, hl, hP1, by omega, fun o H2 ho k2 hP2 => ?_⟩
    refine ⟨(by show 2 ≤ sizeLine; decide), fun t ht => ?_⟩
    exact q (.give o) _ _ ho (by show 2 ≤ 2; decide) rfl (dp_new upd_same (.cons (.str _) (.cons o.dp .nil))) (k1.trans (k2.trans (Kp.new ht))) ((hP2.new ht).le (by omega))
  refine ⟨_, rfl, rfl, _, rfl, ?_⟩
  refine ite2 (fun e => ?_) (fun e => ?_)
  · refine ⟨(by show 1 ≤ sizeLine; decide), fun t ht => ?_⟩
    exact q .skip _ _ trivial (by show 2 ≤ 2; decide) rfl (dp_new upd_same (.cons (.str _) .nil)) (k1.trans (Kp.new ht)) ((hP1.new ht).le (by omega))
  refine ⟨_, rfl, (by show 2 ≤ sizeLine; decide), fun t ht => ?_⟩
  have k1t : Kp [p] H (upd H1 t (.lst [.int 2, .int 3])) := k1.trans (Kp.new ht)
  have rest : ∀ H2, Kp [p] H H2 → PenAt H2 p (n + 1) → ∀ Q' : VK, (∀ (v : V) (o : Stm) H', o.ok N l → o.dp ≤ 2 → o.size = 1 → Dp K H' v o.enc → Kp [p] H H' → PenAt H' p (n + 7) → Q' v H') → 
      spPick K [.ref p, .ref a] H2 (fun x H3 => spValue K [.ref p, .ref a] H3 (fun y H4 => 3 ≤ sizeLine ∧ ∀ t, H4 t = none → Q' (.ref t) (upd H4 t (.tup [.str "set", x, y]))) C8.E0) C8.E0 := by
    intro H2 k2 hP2 Q' hQ
    refine ⟨p, a, _, n + 1, rfl, SqL.of (hP.l k2 hN), by simpa using h0, by simp; omega, hP2, by omega, fun v H3 hv k3 hP3 => ?_⟩
    obtain ⟨x, hx, rfl⟩ := List.mem_map.mp hv
    refine ⟨p, a, N, n + 2, rfl, hP.l (k2.trans k3) hN, hl, hP3, by omega, fun o v H4 ho hv k4 hP4 => ?_⟩
    refine ⟨by decide, fun z hz => ?_⟩
    exact hQ _ (.set x o) _ ⟨hx, ho⟩ (by show 2 ≤ 2; decide) rfl (dp_new upd_same (.cons (.str _) (.cons (.str _) (.cons ((Kp.new (M := []) hz).dp FreeS.nil hv) .nil)))) (k2.trans (k3.trans (k4.trans (Kp.new hz)))) (hP4.new hz)
  refine ⟨t, _, rfl, .inl (SqL.of upd_same), rfl, rfl, _, rfl, ?_⟩
  refine ite2 (fun e => ?_) (fun e => ?_)
  · refine ⟨_, rfl, l, rfl, ?_⟩
    cases l with
    | true =>
      refine iteT ?_
      refine ⟨_, rfl, (by show 2 ≤ sizeLine; decide), fun u hu1 => ?_⟩
      refine ⟨p, u, _, n + 1, rfl, SqL.of upd_same, by show 0 < 2; decide, by show 2 < 1000000; decide, (hP1.new ht).new hu1, by omega, fun word H3 hw k3 hP3 => ?_⟩
      refine ⟨(by show 1 ≤ sizeLine; decide), fun z hz => ?_⟩
      have kz : Kp [p] H (upd H3 z (.tup [word])) := k1t.trans ((Kp.new hu1).trans (k3.trans (Kp.new hz)))
      have hPz := (hP3.new (o := .tup [word]) hz).le (m := n + 7) (by omega)
      simp only [List.mem_cons, List.not_mem_nil, or_false] at hw
      rcases hw with rfl | rfl
      · exact q .brk _ _ rfl (by show 2 ≤ 2; decide) rfl (dp_new upd_same (.cons (.str _) .nil)) kz hPz
      · exact q .nxt _ _ rfl (by show 2 ≤ 2; decide) rfl (dp_new upd_same (.cons (.str _) .nil)) kz hPz
    | false =>
      refine iteF ?_
      refine ⟨_, rfl, _, rfl, ?_⟩
      obtain ⟨p', a', xs, n', e1, e2⟩ := rest _ k1t (hP1.new ht) Q fun v o H' h1 h2 h3 h4 h5 h6 => q o v H' h1 h2 h3 h4 h5 h6
      exact ⟨p', a', xs, n', e1, e2.1, e2.2.1, e2.2.2.1, e2.2.2.2.1, e2.2.2.2.2.1, fun v H' g1 g2 g3 => ⟨_, rfl, _, rfl, e2.2.2.2.2.2 v H' g1 g2 g3⟩⟩
  · refine ⟨_, rfl, _, rfl, ?_⟩
    obtain ⟨p', a', xs, n', e1, e2⟩ := rest _ k1t (hP1.new ht) Q fun v o H' h1 h2 h3 h4 h5 h6 => q o v H' h1 h2 h3 h4 h5 h6
    exact ⟨p', a', xs, n', e1, e2.1, e2.2.1, e2.2.2.1, e2.2.2.2.1, e2.2.2.2.2.1, fun v H' g1 g2 g3 => ⟨_, rfl, _, rfl, e2.2.2.2.2.2 v H' g1 g2 g3⟩⟩
end
end Sv
end
section
set_option Elab.async false
set_option linter.all false
set_option autoImplicit false
set_option maxRecDepth 100000
/-! W3: drawn blocks and programs. -/
namespace Sv
open PySem PySem.Spec PyProof.Rows L2
open C8 (pe_c pe_mt pe_mt0 pe_mk pe_gc)

section
variable {X : Cx}
/-- what an expression gives, told once -/
def tMid (t : TE) : TE := fun σ H Q => ∃ Mid : V → Hp → Prop, t σ H Mid ∧ ∀ v H', Mid v H' → Q v H'
theorem pe_mid {e : Expr} {t : TE} (h : PE X e t) : PE X e (tMid t) := ⟨fun pins s σ H Q I hq => by
  obtain ⟨Mid, h1, h2⟩ := hq
  exact thn (h.run pins s σ H Mid I h1) fun u s1 ⟨v, H1, I1, r1, q1⟩ => ⟨v, H1, I1, r1, h2 _ _ q1⟩⟩
def tMidT (t : TT) : TT := fun σ H Q => ∃ Mid : Bool → Hp → Prop, t σ H Mid ∧ ∀ v H', Mid v H' → Q v H'
theorem pt_mid {e : Expr} {t : TT} (h : PT X e t) : PT X e (tMidT t) := ⟨fun pins s σ H Q I hq => by
  obtain ⟨Mid, h1, h2⟩ := hq
  exact thn (h.run pins s σ H Mid I h1) fun u s1 ⟨H1, I1, q1⟩ => ⟨H1, I1, h2 _ _ q1⟩⟩
end
section
variable {P : Program} {w : World} {K : PySem.W.Frag} {mg : Str → Option Value} {base : Heap}
/-- a promise that nothing keeps is kept by each def -/
theorem calVac {x : Str} {st : Stmt} {ps : List Str} {k : Nat} {sp : Sp} (D : DefOk K mg x st ps) (h : ∀ vs H Q E, ¬ sp vs H Q E) : C8.Cal P w K mg base k x sp [] := by
  obtain ⟨f, fd, F, b⟩ := D.ex
  exact ⟨f, fd, ps, [], ⟨fun vs H Q E q => absurd q (h vs H Q E), fun A outer s H args us vs Q E _ _ _ _ q => absurd q (h vs H Q E)⟩, F.mgf, F.kp, b, .nil⟩
theorem metVac {m qual : Str} {C : Addr} {st : Stmt} {ps : List Str} {k : Nat} {sp : Sp} (c : Cls K C) (D : MetOk K m qual C st ps) (h : ∀ vs H Q E, ¬ sp vs H Q E) : C8.Met P w K mg base k C m sp [] := by
  obtain ⟨f, fd, me, F, b⟩ := D.ex
  exact ⟨f, fd, ps, [], c, me, ⟨fun vs H Q E q => absurd q (h vs H Q E), fun A outer s H args us vs Q E _ _ _ _ q => absurd q (h vs H Q E)⟩, b, .nil⟩
end

/-! ### lists of statements as blocks -/
def ofL : List Stm → Blk
  | [] => .nil
  | s :: r => .cons s (ofL r)
theorem ofL_encs : ∀ ss : List Stm, (ofL ss).encs = ss.map Stm.enc
  | [] => rfl
  | s :: r => by rw [ofL, Blk.encs, ofL_encs r]; rfl
theorem ofL_ok {N : List Str} {l : Bool} : ∀ {ss : List Stm}, (∀ s ∈ ss, s.ok N l) → (ofL ss).ok N l
  | [], _ => by rw [ofL, Blk.ok]; trivial
  | s :: r, h => by
    rw [ofL, Blk.ok]
    exact ⟨h s List.mem_cons_self, ofL_ok fun x hx => h x (List.mem_cons_of_mem _ hx)⟩
theorem ofL_dp {D : Nat} : ∀ {ss : List Stm}, (∀ s ∈ ss, s.dp ≤ D) → (ofL ss).dp ≤ ss.length + D + 1
  | [], _ => by rw [ofL, Blk.dp]; omega
  | s :: r, h => by
    have h1 := h s List.mem_cons_self
    have h2 := ofL_dp (D := D) (ss := r) fun x hx => h x (List.mem_cons_of_mem _ hx)
    rw [ofL, Blk.dp, List.length_cons]
    omega
theorem ofL_size {D : Nat} : ∀ {ss : List Stm}, (∀ s ∈ ss, s.size ≤ D) → (ofL ss).size ≤ ss.length * D
  | [], _ => by rw [ofL, Blk.size]; omega
  | s :: r, h => by
    have h1 := h s List.mem_cons_self
    have h2 := ofL_size (D := D) (ss := r) fun x hx => h x (List.mem_cons_of_mem _ hx)
    rw [ofL, Blk.size, List.length_cons, Nat.add_mul]
    omega
def lapC : Nat → Nat
  | 0 => 8
  | d + 1 => 14 + 2 * (1 + 3 * lapC d)
def blkC' (d : Nat) : Nat := 1 + 3 * lapC d
def dpS : Nat → Nat
  | 0 => 2
  | d + 1 => dpS d + 5
def szS : Nat → Nat
  | 0 => 1
  | d + 1 => 1 + 6 * szS d
theorem dpS_2 : ∀ d, 2 ≤ dpS d
  | 0 => Nat.le_refl _
  | d + 1 => by
    have := dpS_2 d
    rw [dpS]
    omega
theorem szS_1 : ∀ d, 1 ≤ szS d
  | 0 => Nat.le_refl _
  | d + 1 => by rw [szS]; omega
theorem lapC_7 : ∀ d, 8 ≤ lapC d
  | 0 => Nat.le_refl _
  | d + 1 => by rw [lapC]; omega
/-- a statement of the d-th depth -/
structure SOk (N : List Str) (l : Bool) (d : Nat) (s : Stm) : Prop where
  ok : s.ok N l
  dp : s.dp ≤ dpS d
  sz : s.size ≤ szS d
def spBlk (K : PySem.W.Frag) (D : Nat) : Sp := fun vs H Q _ => ∃ (p : Pn) (a : Addr) (d : Nat) (l : Bool) (N : List Str) (n : Nat), vs = [.ref p, .ref a, .int (d : Nat), .bl l] ∧ d < D ∧ H a = some (.lst (N.map V.str)) ∧ 0 < N.length ∧ N.length ≤ 3 ∧ PenAt H p n ∧ n + blkC' d ≤ penMax ∧
  ∀ (ss : List Stm) (v : V) (H' : Hp), ss.length ≤ 3 → (∀ s ∈ ss, SOk N l d s) → Dp K H' v (.tuple (ss.map Stm.enc)) → Kp [p] H H' → PenAt H' p (n + blkC' d) → Q v H'
theorem blkDp {N : List Str} {l : Bool} {d : Nat} {ss : List Stm} (hl : ss.length ≤ 3) (h : ∀ s ∈ ss, SOk N l d s) : (ofL ss).ok N l ∧ (ofL ss).dp + 1 ≤ dpS (d + 1) ∧ (ofL ss).size ≤ 3 * szS d := by
  have h1 := ofL_dp (D := dpS d) fun s hs => (h s hs).dp
  have h2 := ofL_size (D := szS d) fun s hs => (h s hs).sz
  have h3 : ss.length * szS d ≤ 3 * szS d := Nat.mul_le_mul_right _ hl
  refine ⟨ofL_ok fun s hs => (h s hs).ok, by rw [dpS]; omega, by omega⟩
theorem sc_blk : FnScope ["_law_pen_here", "_law_names", "_law_depth", "_law_is_in_loop", "_law_found", "_law_lap", "_law_way", "_law_one", "_law_other"] ["_law_pen_here", "_law_names", "_law_depth", "_law_is_in_loop"] (C8.fnScope (topS 70)) := C8.fnScope_by (by decide +kernel)
section
variable {P : Program} {w : World} {K : PySem.W.Frag} {mg : Str → Option Value} {base : Heap}
set_option maxHeartbeats 2000000
theorem blk_step (T : Txt K mg) (D : Nat) (c__law_some_block : C8.Cal P w K mg base (6 + D) "_law_some_block" (spBlk K D) []) : C8.Cal P w K mg base (6 + D + 1) "_law_some_block" (spBlk K (D + 1)) [] := by
  have nd := sc_blk.nd
  have c__law_draw := draw_ok (P := P) (w := w) (base := base) T
  have c__law_pick := pick_ok (P := P) (w := w) (base := base) T
  have c__law_some_condition := cond_ok (P := P) (w := w) (base := base) T
  have c__law_plain_statement := plain_ok (P := P) (w := w) (base := base) T
  refine calD T.d__law_some_block sc_blk (fun vs H Q E h => ?_) (fun f cdv A outer s H vs Q E hr h => ?_)
  · obtain ⟨p, a, d, l, N, n, rfl, _⟩ := h
    rfl
  obtain ⟨p, a, d, l, N, n, rfl, hd, hN, h0, hl, hP, hn, q⟩ := h
  have hu := hu_of hr
  have hn' : n + 1 + 3 * lapC d ≤ penMax := by unfold blkC' at hn; omega
  have q : ∀ (ss : List Stm) (v : V) (H' : Hp), ss.length ≤ 3 → (∀ s ∈ ss, SOk N l d s) → Dp K H' v (.tuple (ss.map Stm.enc)) → Kp [p] H H' → PenAt H' p (n + 1 + 3 * lapC d) → Q v H' := fun ss v H' h1 h2 h3 h4 h5 => q ss v H' h1 h2 h3 h4 (by unfold blkC'; rw [← Nat.add_assoc]; exact h5)
  have hr1 : Room 5 (A.deeper (envOfC "_law_some_block" (C8.fnScope (topS 70)) s.heap.objs.size f cdv)) := hr.mono (by omega)
  have l7 := lapC_7 d
  refine ⟨_, (pss_cons (ps_asg (pe_lst pa_nil) (pg_name (i := 4) nd rfl (Or.inl rfl)))
  (pss_cons (ps_for PassesOwn.never rfl (pi_range1 rfl T.z_range (pa_cons (pe_mid (pe_ifExp (pt_cmpR op_lt (pv 2) pe_int (nomark _)) (pe_c c__law_pick hr (by omega) rfl (pa_cons (pv 0) (pa_cons (pe_lst (pa_cons pe_int (pa_cons pe_int (pa_cons pe_int (pa_cons pe_int (pa_cons pe_int (pa_cons pe_int pa_nil))))))) pa_nil))) (pe_op op_add pe_int (pe_c c__law_draw hr (by omega) rfl (pa_cons (pv 0) (pa_cons pe_int pa_nil)))))) pa_nil)) (pg_name (i := 5) nd rfl (Or.inl rfl))
    (pss_cons (ps_asg (pe_mid (pe_ifExp (pt_cmpR op_gt (pv 2) pe_int (nomark _)) (pe_c c__law_draw hr (by omega) rfl (pa_cons (pv 0) (pa_cons pe_int pa_nil))) pe_int)) (pg_name (i := 6) nd rfl (Or.inl rfl)))
  (pss_one (ps_if (pt_mid (PW.pt (pw_or (pt_cmpR op_eq (pv 6) pe_int (nomark _)) (pw_or1 (pt_cmpR op_eq (pv 6) pe_int (nomark _)))))) (pss_cons (ps_asg (pe_c c__law_some_block hr (by omega) rfl (pa_cons (pv 0) (pa_cons (pv 1) (pa_cons (pe_op op_sub (pv 2) pe_int) (pa_cons (pv 3) pa_nil))))) (pg_name (i := 7) nd rfl (Or.inl rfl)))
  (pss_cons (ps_asg (pe_c c__law_some_block hr (by omega) rfl (pa_cons (pv 0) (pa_cons (pv 1) (pa_cons (pe_op op_sub (pv 2) pe_int) (pa_cons (pv 3) pa_nil))))) (pg_name (i := 8) nd rfl (Or.inl rfl)))
  (pss_one (ps_expr (pe_bm PySem.F.plainAttrs_list PySem.F.slot_list_append PySem.F.type_list_append mt_append (pv 4) (pa_cons (pe_tup (pa_cons pe_str (pa_cons (pe_c c__law_some_condition hr (by omega) rfl (pa_cons (pv 0) (pa_cons (pv 1) pa_nil))) (pa_cons (pv 7) (pa_cons (pv 8) pa_nil))))) pa_nil)))))) (pss_one (ps_if (pt_mid (PW.pt (pw_or (pt_cmpR op_eq (pv 6) pe_int (nomark _)) (pw_or1 (pt_cmpR op_eq (pv 6) pe_int (nomark _)))))) (pss_one (ps_expr (pe_bm PySem.F.plainAttrs_list PySem.F.slot_list_append PySem.F.type_list_append mt_append (pv 4) (pa_cons (pe_tup (pa_cons pe_str (pa_cons (pe_c c__law_some_condition hr (by omega) rfl (pa_cons (pv 0) (pa_cons (pv 1) pa_nil))) (pa_cons (pe_c c__law_some_block hr (by omega) rfl (pa_cons (pv 0) (pa_cons (pv 1) (pa_cons (pe_op op_sub (pv 2) pe_int) (pa_cons pe_bl pa_nil))))) pa_nil)))) pa_nil)))) (pss_one (ps_if (pt_cmpR op_eq (pv 6) pe_int (nomark _)) (pss_one (ps_expr (pe_bm PySem.F.plainAttrs_list PySem.F.slot_list_append PySem.F.type_list_append mt_append (pv 4) (pa_cons (pe_tup (pa_cons pe_str (pa_cons (pe_c c__law_some_block hr (by omega) rfl (pa_cons (pv 0) (pa_cons (pv 1) (pa_cons (pe_op op_sub (pv 2) pe_int) (pa_cons pe_bl pa_nil))))) pa_nil))) pa_nil)))) (pss_one (ps_expr (pe_bm PySem.F.plainAttrs_list PySem.F.slot_list_append PySem.F.type_list_append mt_append (pv 4) (pa_cons (pe_c c__law_plain_statement hr (by omega) rfl (pa_cons (pv 0) (pa_cons (pv 1) (pa_cons (pv 3) pa_nil)))) pa_nil))))))))))))
  (pss_one (ps_ret (pe_callTy call_tuple_of (by rfl) T.z_tuple (by decide +kernel) (pa_cons (pv 4) pa_nil)))))), ?_⟩
  refine ⟨(by show 0 ≤ sizeLine; decide), fun L hL => ?_⟩
  have kL : Kp [p] H (upd H L (.lst [])) := Kp.new hL
  have aL : a ≠ L := ne_of_none hN hL
  refine ⟨fun v H1 => ∃ c : Nat, c ≤ 3 ∧ v = .int (c : Nat) ∧ Kp [p] (upd H L (.lst [])) H1 ∧ PenAt H1 p (n + 1), ?_, ?_⟩
  · refine ⟨_, rfl, _, _, rfl, rfl, _, rfl, ?_⟩
    refine ite2 (fun e => ?_) (fun e => ?_)
    · refine ⟨_, rfl, (by show 6 ≤ sizeLine; decide), fun t ht => ?_⟩
      refine ⟨p, t, _, n, rfl, SqL.of upd_same, by show 0 < 6; decide, by show 6 < 1000000; decide, (hP.new hL).new ht, by omega, fun v H1 hv k1 hP1 => ?_⟩
      have k := (Kp.new (M := [p]) ht).trans k1
      simp only [List.mem_cons, List.not_mem_nil, or_false] at hv
      rcases hv with rfl | rfl | rfl | rfl | rfl | rfl
      · exact ⟨0, by decide, rfl, k, hP1⟩
      · exact ⟨1, by decide, rfl, k, hP1⟩
      · exact ⟨1, by decide, rfl, k, hP1⟩
      · exact ⟨2, by decide, rfl, k, hP1⟩
      · exact ⟨2, by decide, rfl, k, hP1⟩
      · exact ⟨3, by decide, rfl, k, hP1⟩
    · refine ⟨_, rfl, p, _, n, rfl, hP.new hL, by omega, by decide, by decide, fun r H1 r0 r1 k1 hP1 => ?_⟩
      exact ⟨_, _, rfl, rfl, (1 + r).toNat, by omega, congrArg V.int (by show (1 : Int) + r = _; omega), k1, hP1⟩
  rintro _ H1 ⟨c, hc, rfl, k1, hP1⟩
  refine ⟨(c : Nat), rfl, by omega, by omega, ?_⟩
  have eL : H1 L = some (.lst []) := (hP.new hL).l k1 upd_same
  refine for_range (n := (c : Int).toNat) (fun i σ H' => ∃ (ss : List Stm) (xs : List V) (v5 v6 v7 v8 : Option V), σ = [some (.ref p), some (.ref a), some (.int (d : Nat)), some (.bl l), some (.ref L), v5, v6, v7, v8] ∧ ss.length = i ∧ (∀ s ∈ ss, SOk N l d s) ∧ H' L = some (.lst xs) ∧ DpAll K H' xs (ss.map Stm.enc) ∧ Kp [p] H H' ∧ PenAt H' p (n + 1 + i * lapC d))
    ⟨[], [], _, _, _, _, rfl, rfl, by simp, eL, .nil, kL.trans k1, by rw [Nat.zero_mul]; exact hP1⟩ ?_ ?_
  · rintro i _ H2 hi ⟨ss, xs, v5, v6, v7, v8, rfl, hs, hss, hxs, hda, k2, hP2⟩
    have hi3 : i < 3 := by omega
    have hb : n + 1 + i * lapC d + lapC d ≤ penMax := by
      have : (i + 1) * lapC d ≤ 3 * lapC d := Nat.mul_le_mul_right _ (by omega)
      rw [Nat.add_mul, Nat.one_mul] at this
      omega
    have next : ∀ (s : Stm) (v : V) (H3 : Hp), SOk N l d s → Dp K H3 v s.enc → DpAll K H3 xs (ss.map Stm.enc) → H3 L = some (.lst xs) → Kp [p] H H3 → PenAt H3 p (n + 1 + i * lapC d + lapC d) → ∀ v5 v6 v7 v8 : Option V, 
        xs.length < sizeLine ∧ (∃ (ss : List Stm) (xs' : List V) (w5 w6 w7 w8 : Option V), [some (.ref p), some (.ref a), some (.int (d : Nat)), some (.bl l), some (.ref L), v5, v6, v7, v8] = [some (.ref p), some (.ref a), some (.int (d : Nat)), some (.bl l), some (.ref L), w5, w6, w7, w8] ∧ ss.length = i + 1 ∧ (∀ s ∈ ss, SOk N l d s) ∧ (upd H3 L (.lst (xs ++ [v]))) L = some (.lst xs') ∧ DpAll K (upd H3 L (.lst (xs ++ [v]))) xs' (ss.map Stm.enc) ∧ Kp [p] H (upd H3 L (.lst (xs ++ [v]))) ∧ PenAt (upd H3 L (.lst (xs ++ [v]))) p (n + 1 + (i + 1) * lapC d)) := by
      intro s v H3 h1 h2 h3 h4 h5 h6 v5 v6 v7 v8
      have hlen := dpA_len hda
      rw [List.length_map] at hlen
      refine ⟨Nat.lt_of_lt_of_le (by omega) (sm (n := 3) (by decide)), ss ++ [s], xs ++ [v], v5, v6, v7, v8, rfl, by rw [List.length_append, hs]; rfl, fun x hx => ?_, upd_same, ?_, fun b u hb1 hb2 => ?_, ?_⟩
      · rcases List.mem_append.mp hx with z | z
        · exact hss x z
        · rw [List.mem_singleton] at z
          rw [z]
          exact h1
      · rw [List.map_append]
        have kk : Kp [L] H3 (upd H3 L (.lst (xs ++ [v]))) := Kp.put (by simp)
        have ff : FreeT [L] H3 := fun b hb => by
          rw [List.mem_singleton] at hb
          rw [hb, h4]
          rfl
        refine kk.dpTA ff ?_ (dpA_app h3 (.cons h2 .nil))
        refine tuA_all fun x hx => ?_
        rcases List.mem_append.mp hx with z | z
        · obtain ⟨y, _, rfl⟩ := List.mem_map.mp z
          exact y.tu
        · obtain ⟨y, _, rfl⟩ := List.mem_map.mp z
          exact y.tu
      · rw [upd_ne (ne_of_none hb2 hL)]
        exact h5 b u hb1 hb2
      · have z : PenAt (upd H3 L (.lst (xs ++ [v]))) p (n + 1 + i * lapC d + lapC d) := h6.keep (Kp.put (M := [L]) (by simp)) (hP.not hL).1 (hP.not hL).2
        rw [Nat.add_mul, Nat.one_mul, ← Nat.add_assoc]
        exact z
    refine ⟨fun v H3 => ∃ r : Int, v = .int r ∧ 0 ≤ r ∧ (r < 7 → 0 < d) ∧ Kp [p] H2 H3 ∧ PenAt H3 p (n + 1 + i * lapC d + 1), ?_, ?_⟩
    · refine ⟨_, rfl, _, _, rfl, rfl, _, rfl, ?_⟩
      refine ite2 (fun e => ?_) (fun e => ?_)
      · have e' : (0 : Int) < (d : Nat) := of_decide_eq_true e
        refine ⟨_, rfl, p, _, _, rfl, hP2, by omega, by decide, by decide, fun r H3 r0 r1 k3 hP3 => ?_⟩
        exact ⟨r, rfl, r0, fun _ => by omega, k3, hP3⟩
      · exact ⟨9, rfl, by decide, fun z => absurd z (by decide), Kp.refl, hP2.le (by omega)⟩
    rintro _ H3 ⟨r, rfl, r0, r7, k3, hP3⟩
    have kH3 := k2.trans k3
    have xs3 : H3 L = some (.lst xs) := hP2.l k3 hxs
    have da3 : DpAll K H3 xs (ss.map Stm.enc) := k3.dpA hP2.frees hda
    have aN : ∀ {H' : Hp}, Kp [p] H H' → H' a = some (.lst (N.map V.str)) := fun k => hP.l k hN
    have ifs : ∀ (hd0 : 0 < d), blkC' (d - 1) + blkC' (d - 1) + 14 = lapC d ∧ d - 1 + 1 = d := fun hd0 => by
      obtain ⟨e, rfl⟩ : ∃ e, d = e + 1 := ⟨d - 1, by omega⟩
      rw [lapC, Nat.add_sub_cancel, blkC']
      exact ⟨by omega, rfl⟩
    have dcast : ∀ (hd0 : 0 < d), (V.int ((d : Int) - 1)) = V.int ((d - 1 : Nat) : Int) := fun hd0 => congrArg V.int (by omega)
    have up : ∀ {l' : Bool} {bb : List Stm} (hd0 : 0 < d), bb.length ≤ 3 → (∀ s ∈ bb, SOk N l' (d - 1) s) → (ofL bb).ok N l' ∧ (ofL bb).dp + 1 ≤ dpS d ∧ (ofL bb).size ≤ 3 * szS (d - 1) ∧ szS d = 1 + 6 * szS (d - 1) ∧ 6 ≤ dpS d := fun {l' bb} hd0 h1 h2 => by
      obtain ⟨g1, g2, g3⟩ := blkDp h1 h2
      obtain ⟨e, rfl⟩ : ∃ e, d = e + 1 := ⟨d - 1, by omega⟩
      have := dpS_2 e
      rw [Nat.add_sub_cancel] at *
      exact ⟨g1, g2, g3, rfl, by rw [dpS]; omega⟩
    refine ⟨fun b H4 => H3 = H4 ∧ (b = true → r < 7), ?_, ?_⟩
    · refine ⟨_, rfl, rfl, _, rfl, ?_⟩
      refine ite2 (fun e => ⟨rfl, fun _ => ?_⟩) (fun e => ?_)
      · have := V.int.inj (of_decide_eq_true e)
        omega
      · refine ⟨_, rfl, rfl, _, rfl, rfl, fun e => ?_⟩
        have := V.int.inj (of_decide_eq_true e)
        omega
    rintro b _ ⟨rfl, hb⟩
    cases b with
    | true =>
      have hd0 := r7 (hb rfl)
      obtain ⟨c1, c2⟩ := ifs hd0
      refine iteT ?_
      refine ⟨_, rfl, _, rfl, _, rfl, _, _, rfl, rfl, _, rfl, ?_⟩
      refine ⟨p, a, d - 1, l, N, _, by rw [← dcast hd0]; rfl, by omega, aN kH3, h0, hl, hP3, by omega, fun s1 v1 H4 g1 g2 g3 k4 hP4 => ?_⟩
      refine ⟨_, rfl, _, rfl, _, rfl, _, _, rfl, rfl, _, rfl, ?_⟩
      refine ⟨p, a, d - 1, l, N, _, by rw [← dcast hd0]; rfl, by omega, aN (kH3.trans k4), h0, hl, hP4, by omega, fun s2 v2 H5 g4 g5 g6 k5 hP5 => ?_⟩
      refine ⟨_, rfl, .inl ⟨rfl, _, SqL.of (hP4.l k5 (hP3.l k4 xs3))⟩, ?_⟩
      refine ⟨_, rfl, _, rfl, p, a, N, _, rfl, aN (kH3.trans (k4.trans k5)), hl, hP5, by omega, fun o v H6 ho op od hv k6 hP6 => ?_⟩
      refine ⟨_, rfl, _, rfl, (by show 4 ≤ sizeLine; decide), fun t ht => ?_⟩
      have k36 : Kp [p] H3 (upd H6 t (.tup [.str "if", v, v1, v2])) := k4.trans (k5.trans (k6.trans (Kp.new ht)))
      obtain ⟨u1, u2, u3, u4, u5⟩ := up hd0 g1 g2
      obtain ⟨w1, w2, w3, w4, w5⟩ := up hd0 g4 g5
      have L6 : H6 L = some (.lst xs) := hP5.l k6 (hP4.l k5 (hP3.l k4 xs3))
      obtain ⟨z1, z2⟩ := next (.ifs o (ofL s1) (ofL s2)) (.ref t) _ ⟨by rw [Stm.ok]; exact ⟨ho, op, u1, w1⟩, by rw [Stm.dp]; omega, by rw [Stm.size]; omega⟩
        (by
          rw [Stm.enc, ofL_encs, ofL_encs]
          exact dp_new upd_same (.cons (.str _) (.cons ((Kp.new (M := []) ht).dp FreeS.nil hv) (.cons (((k5.trans k6).trans (Kp.new ht)).dp hP4.frees g3) (.cons ((k6.trans (Kp.new ht)).dp hP5.frees g6) .nil)))))
        (k36.dpA hP3.frees da3) (by rw [upd_ne (ne_of_none L6 ht)]; exact L6) (kH3.trans k36) ((hP6.new ht).le (by omega)) (some (.int (0 + (i : Nat)))) (some (.int r)) (some v1) (some v2)
      exact ⟨L, xs, _, rfl, rfl, by rw [upd_ne (ne_of_none L6 ht)]; exact L6, z1, z2⟩
    | false =>
    refine iteF ?_
    refine ⟨fun b H4 => H3 = H4 ∧ (b = true → r < 7), ?_, ?_⟩
    · refine ⟨_, rfl, rfl, _, rfl, ?_⟩
      refine ite2 (fun e => ⟨rfl, fun _ => ?_⟩) (fun e => ?_)
      · have := V.int.inj (of_decide_eq_true e)
        omega
      · refine ⟨_, rfl, rfl, _, rfl, rfl, fun e => ?_⟩
        have := V.int.inj (of_decide_eq_true e)
        omega
    rintro b _ ⟨rfl, hb⟩
    cases b with
    | true =>
      have hd0 := r7 (hb rfl)
      obtain ⟨c1, c2⟩ := ifs hd0
      refine iteT ?_
      refine ⟨_, rfl, .inl ⟨rfl, _, SqL.of xs3⟩, ?_⟩
      refine ⟨_, rfl, _, rfl, p, a, N, _, rfl, aN kH3, hl, hP3, by omega, fun o v H6 ho op od hv k6 hP6 => ?_⟩
      refine ⟨_, rfl, _, rfl, _, rfl, _, _, rfl, rfl, ?_⟩
      refine ⟨p, a, d - 1, true, N, _, by rw [← dcast hd0]; rfl, by omega, aN (kH3.trans k6), h0, hl, hP6, by omega, fun s1 v1 H5 g1 g2 g3 k5 hP5 => ?_⟩
      refine ⟨(by show 3 ≤ sizeLine; decide), fun t ht => ?_⟩
      have k36 : Kp [p] H3 (upd H5 t (.tup [.str "while", v, v1])) := k6.trans (k5.trans (Kp.new ht))
      obtain ⟨u1, u2, u3, u4, u5⟩ := up hd0 g1 g2
      have L5 : H5 L = some (.lst xs) := hP6.l k5 (hP3.l k6 xs3)
      obtain ⟨z1, z2⟩ := next (.while o (ofL s1)) (.ref t) _ ⟨by rw [Stm.ok]; exact ⟨ho, op, u1⟩, by rw [Stm.dp]; omega, by rw [Stm.size]; omega⟩
        (by
          rw [Stm.enc, ofL_encs]
          exact dp_new upd_same (.cons (.str _) (.cons ((k5.trans (Kp.new ht)).dp hP6.frees hv) (.cons ((Kp.new (M := []) ht).dp FreeS.nil g3) .nil))))
        (k36.dpA hP3.frees da3) (by rw [upd_ne (ne_of_none L5 ht)]; exact L5) (kH3.trans k36) ((hP5.new ht).le (by omega)) (some (.int (0 + (i : Nat)))) (some (.int r)) v7 v8
      exact ⟨L, xs, _, rfl, rfl, by rw [upd_ne (ne_of_none L5 ht)]; exact L5, z1, z2⟩
    | false =>
    refine iteF ?_
    refine ⟨_, rfl, rfl, _, rfl, ?_⟩
    refine ite2 (fun e => ?_) (fun e => ?_)
    · have e4 := V.int.inj (of_decide_eq_true e)
      have hd0 := r7 (by omega)
      obtain ⟨c1, c2⟩ := ifs hd0
      refine ⟨_, rfl, .inl ⟨rfl, _, SqL.of xs3⟩, ?_⟩
      refine ⟨_, rfl, _, rfl, _, rfl, _, _, rfl, rfl, ?_⟩
      refine ⟨p, a, d - 1, true, N, _, by rw [← dcast hd0]; rfl, by omega, aN kH3, h0, hl, hP3, by omega, fun s1 v1 H5 g1 g2 g3 k5 hP5 => ?_⟩
      refine ⟨(by show 2 ≤ sizeLine; decide), fun t ht => ?_⟩
      have k36 : Kp [p] H3 (upd H5 t (.tup [.str "loop", v1])) := k5.trans (Kp.new ht)
      obtain ⟨u1, u2, u3, u4, u5⟩ := up hd0 g1 g2
      have L5 : H5 L = some (.lst xs) := hP3.l k5 xs3
      obtain ⟨z1, z2⟩ := next (.loop (ofL s1)) (.ref t) _ ⟨by rw [Stm.ok]; exact u1, by rw [Stm.dp]; omega, by rw [Stm.size]; omega⟩
        (by
          rw [Stm.enc, ofL_encs]
          exact dp_new upd_same (.cons (.str _) (.cons ((Kp.new (M := []) ht).dp FreeS.nil g3) .nil)))
        (k36.dpA hP3.frees da3) (by rw [upd_ne (ne_of_none L5 ht)]; exact L5) (kH3.trans k36) ((hP5.new ht).le (by omega)) (some (.int (0 + (i : Nat)))) (some (.int r)) v7 v8
      exact ⟨L, xs, _, rfl, rfl, by rw [upd_ne (ne_of_none L5 ht)]; exact L5, z1, z2⟩
    · refine ⟨_, rfl, .inl ⟨rfl, _, SqL.of xs3⟩, ?_⟩
      refine ⟨_, rfl, _, rfl, _, rfl, p, a, l, N, _, rfl, aN kH3, h0, hl, hP3, by omega, fun o v H4 ho od os hv k4 hP4 => ?_⟩
      have L4 : H4 L = some (.lst xs) := hP3.l k4 xs3
      have d2 := dpS_2 d
      have s1 := szS_1 d
      obtain ⟨z1, z2⟩ := next o v H4 ⟨ho, by omega, by omega⟩ hv (k4.dpA hP3.frees da3) L4 (kH3.trans k4) (hP4.le (by omega)) (some (.int (0 + (i : Nat)))) (some (.int r)) v7 v8
      exact ⟨L, xs, _, rfl, rfl, L4, z1, z2⟩
  · rintro _ H2 ⟨ss, xs, v5, v6, v7, v8, rfl, hs, hss, hxs, hda, k2, hP2⟩
    have hsl : ss.length ≤ 3 := by omega
    have hP3 : PenAt H2 p (n + 1 + 3 * lapC d) := hP2.le (by
      have : (c : Int).toNat * lapC d ≤ 3 * lapC d := Nat.mul_le_mul_right _ (by omega)
      omega)
    refine ⟨_, rfl, L, _, rfl, .inl ⟨SqL.of hxs, fun t ht => ?_⟩⟩
    exact q ss _ _ hsl hss (dp_new upd_same ((Kp.new (M := []) ht).dpA FreeS.nil hda)) (k2.trans (Kp.new ht)) (hP3.new ht)
end
end Sv
end
section
set_option Elab.async false
set_option linter.all false
set_option autoImplicit false
set_option maxRecDepth 100000
/-! W4: data: slices, sums of tuples; the law's size; the drawn program. -/
namespace Sv
open PySem PySem.Spec PyProof.Rows L2
open C8 (pe_c pe_mt pe_mt0 pe_mk pe_gc)

/-! ### slices and sums of data -/
section
variable {X : Cx} {e lo hi : Expr} {te tl : TE} {p2 pos : Pos}
def tSlF (r : V → Option Int → Option Int → Hp → VK → Prop) (te tl : TE) : TE := fun σ H Q => te σ H fun x H1 => tl σ H1 fun y H2 => ∃ i, y = .int i ∧ r x (some i) none H2 Q
def tSlT (r : V → Option Int → Option Int → Hp → VK → Prop) (te tl : TE) : TE := fun σ H Q => te σ H fun x H1 => tl σ H1 fun y H2 => ∃ i, y = .int i ∧ r x none (some i) H2 Q
/-- a[i], i written -/
def tIxc (r : R2) (i : Int) (te : TE) : TE := fun σ H Q => te σ H fun x H1 => r x (.int i) H1 Q
theorem pe_ixc {r : R2} {i : Int} {j : Nat} {p3 : Pos} (hr : IxR X r) (he : PE X e te) : PE X (.Subscript e (.Constant (.int i) j p3) pos) (tIxc r i te) := pe_ix hr he pe_int (fun _ _ => rfl)
theorem pe_slF_tup (he : PE X e te) (hl : PE X lo tl) : PE X (.Subscript e (.Slice (some lo) none none p2) pos) (tSlF (rSlA X.K) te tl) := pe_slice sl_tupA he (po_some hl) po_none
theorem pe_slF_lst (he : PE X e te) (hl : PE X lo tl) : PE X (.Subscript e (.Slice (some lo) none none p2) pos) (tSlF (rSlL X.K) te tl) := pe_slice sl_list he (po_some hl) po_none
theorem pe_slF_any (he : PE X e te) (hl : PE X lo tl) : PE X (.Subscript e (.Slice (some lo) none none p2) pos) (tSlF (fun x lo hi H Q => rSlL X.K x lo hi H Q ∨ rSlA X.K x lo hi H Q) te tl) := pe_slice (sl_list.or sl_tupA) he (po_some hl) po_none
theorem pe_slT_tup (he : PE X e te) (hl : PE X hi tl) : PE X (.Subscript e (.Slice none (some hi) none p2) pos) (tSlT (rSlA X.K) te tl) := pe_slice sl_tupA he po_none (po_some hl)
theorem pe_slT_lst (he : PE X e te) (hl : PE X hi tl) : PE X (.Subscript e (.Slice none (some hi) none p2) pos) (tSlT (rSlL X.K) te tl) := pe_slice sl_list he po_none (po_some hl)
end
theorem sIx_nat (n d k : Nat) : HT.sIx n d (some (k : Nat)) = min k n := by
  unfold HT.sIx
  have h : ¬ ((k : Int) < 0) := by omega
  simp only [h, if_false]
  omega
theorem cutV_from (xs : List V) (k : Nat) : cutV xs (some (k : Nat)) none = xs.drop k := by
  unfold cutV
  rw [sIx_nat]
  show (xs.drop (min k xs.length)).take (xs.length - min k xs.length) = _
  by_cases h : k ≤ xs.length
  · rw [Nat.min_eq_left h, List.take_of_length_le (by rw [List.length_drop]; omega)]
  · rw [Nat.min_eq_right (by omega), List.drop_eq_nil_of_le (by omega), List.drop_eq_nil_of_le (by omega), List.take_nil]
theorem cutV_to (xs : List V) (k : Nat) : cutV xs none (some (k : Nat)) = xs.take k := by
  unfold cutV
  rw [sIx_nat]
  show (xs.drop 0).take (min k xs.length - 0) = _
  rw [List.drop_zero, Nat.sub_zero]
  by_cases h : k ≤ xs.length
  · rw [Nat.min_eq_left h]
  · rw [Nat.min_eq_right (by omega), List.take_of_length_le (Nat.le_refl _), List.take_of_length_le (by omega)]
section
variable {K : PySem.W.Frag} {H : Hp} {v u : V} {ds es : List PyData} {Q : VK}
theorem sla_from (k : Nat) (h : Dp K H v (.tuple ds)) (q : ∀ v' H', Dp K H' v' (.tuple (ds.drop k)) → Kp [] H H' → Q v' H') : rSlA K v (some (k : Nat)) none H Q := by
  obtain ⟨a, xs, rfl, hs, ha⟩ := dp_tup h
  refine ⟨a, xs, rfl, hs, fun e => ?_, fun _ p hp => ?_⟩
  · rw [sIx_nat] at e
    have e1 : ds.drop k = ds := by
      have hl := dpA_len ha
      by_cases c : k = 0
      · rw [c]; rfl
      · have : xs.length = 0 := by omega
        have : ds = [] := List.eq_nil_of_length_eq_zero (by omega)
        rw [this]; exact List.drop_nil
    exact q _ _ (by rw [e1]; exact h) Kp.refl
  · rw [cutV_from]
    exact q _ _ (dp_new upd_same ((Kp.new (M := []) hp).dpA FreeS.nil (dpA_drop k ha))) (Kp.new hp)
theorem cata (h : Dp K H v (.tuple ds)) (h' : Dp K H u (.tuple es)) (hl : ds.length + es.length ≤ 100000) (q : ∀ v' H', Dp K H' v' (.tuple (ds ++ es)) → Kp [] H H' → Q v' H') : rCatA K v u H Q := by
  obtain ⟨a, xs, rfl, hs, ha⟩ := dp_tup h
  obtain ⟨b, ys, rfl, hs', hb⟩ := dp_tup h'
  have l1 := dpA_len ha
  have l2 := dpA_len hb
  refine ⟨a, b, xs, ys, rfl, rfl, hs, hs', sm (by omega), fun e => ?_, fun _ e => ?_, fun _ _ p hp => ?_⟩
  · have : ds = [] := List.eq_nil_of_length_eq_zero (by rw [← l1, e]; rfl)
    exact q _ _ (by rw [this]; exact h') Kp.refl
  · have : es = [] := List.eq_nil_of_length_eq_zero (by rw [← l2, e]; rfl)
    exact q _ _ (by rw [this, List.append_nil]; exact h) Kp.refl
  · exact q _ _ (dp_new upd_same ((Kp.new (M := []) hp).dpA FreeS.nil (dpA_app ha hb))) (Kp.new hp)
theorem ixd {i : Nat} {d : PyData} (h : Dp K H v (.tuple ds)) (hi : ds[i]? = some d) (q : ∀ v', Dp K H v' d → Q v' H) : rIxT K v (.int (i : Nat)) H Q := by
  obtain ⟨a, xs, rfl, hs, ha⟩ := dp_tup h
  obtain ⟨v', h1, h2⟩ := dpA_at ha hi
  exact ⟨a, xs, _, v', rfl, rfl, hs, atI_nat h1, q v' h2⟩
end

/-! ### blocks as lists -/
def Blk.toL : Blk → List Stm
  | .nil => []
  | .cons s b => s :: b.toL
theorem toL_encs : ∀ b : Blk, b.encs = b.toL.map Stm.enc
  | .nil => by rw [Blk.encs]; rfl
  | .cons s b => by rw [Blk.encs, toL_encs b]; rfl
theorem toL_size : ∀ b : Blk, b.size = (b.toL.map Stm.size).sum
  | .nil => by rw [Blk.size]; rfl
  | .cons s b => by rw [Blk.size, toL_size b]; rfl
theorem toL_dp : ∀ {b : Blk} {s : Stm}, s ∈ b.toL → s.dp < b.dp
  | .nil, s, h => nomatch h
  | .cons t b, s, h => by
    rw [Blk.dp]
    rcases List.mem_cons.mp h with rfl | h
    · omega
    · have := toL_dp h
      omega
theorem toL_ok {N : List Str} {l : Bool} : ∀ {b : Blk} {s : Stm}, b.ok N l → s ∈ b.toL → s.ok N l
  | .nil, s, _, h => nomatch h
  | .cons t b, s, hb, h => by
    rw [Blk.ok] at hb
    rcases List.mem_cons.mp h with rfl | h
    · exact hb.1
    · exact toL_ok hb.2 h
theorem toL_len : ∀ b : Blk, b.toL.length < b.dp
  | .nil => by rw [Blk.dp]; exact Nat.zero_lt_one
  | .cons s b => by
    have := toL_len b
    rw [Blk.dp]
    show b.toL.length + 1 < _
    omega
theorem ofL_toL : ∀ ss : List Stm, (ofL ss).toL = ss
  | [] => rfl
  | s :: r => by rw [ofL, Blk.toL, ofL_toL r]
/-- the blocks within a statement -/
def Stm.blks : Stm → List Blk
  | .ifs _ b1 b2 => [b1, b2]
  | .while _ b => [b]
  | .loop b => [b]
  | .set _ _ => []
  | .give _ => []
  | .skip => []
  | .brk => []
  | .nxt => []
theorem blks_dp {s : Stm} {b : Blk} (h : b ∈ s.blks) : b.dp < s.dp := by
  cases s <;> simp only [Stm.blks, List.mem_cons, List.not_mem_nil, or_false] at h
  · rw [Stm.dp]; rcases h with rfl | rfl <;> omega
  · rw [Stm.dp, h]; omega
  · rw [Stm.dp, h]; omega
theorem blks_size (s : Stm) : s.size = (s.blks.map Blk.size).sum + 1 := by
  cases s <;> simp [Stm.size, Stm.blks]
theorem blks_len (s : Stm) : s.blks.length ≤ 2 := by
  cases s <;> simp [Stm.blks]
section
variable {K : PySem.W.Frag} {H : Hp} {v : V}
theorem dp_blk {b : Blk} (h : Dp K H v b.enc) : ∃ a xs, v = .ref a ∧ SqT K H a xs ∧ DpAll K H xs (b.toL.map Stm.enc) := by
  rw [Blk.enc, toL_encs] at h
  exact dp_tup h
end
/-- an item of data that is a list's map -/
theorem dpA_map {α : Type} {K : PySem.W.Frag} {H : Hp} {f : α → PyData} {l : List α} {xs : List V} {i : Nat} {v : V} (h : DpAll K H xs (l.map f)) (e : xs[i]? = some v) : ∃ x, l[i]? = some x ∧ Dp K H v (f x) := by
  obtain ⟨d, h1, h2⟩ := dpA_at' h e
  rw [List.getElem?_map] at h1
  obtain ⟨x, hx, rfl⟩ := Option.map_eq_some_iff.mp h1
  exact ⟨x, hx, h2⟩
theorem sm' {n : Nat} (h : n < 100000) : n < sizeLine := Nat.lt_trans h (by decide)
theorem sumNat : ∀ l : List Blk, (l.map fun b => ((b.size : Nat) : Int)).sum = ((l.map Blk.size).sum : Nat)
  | [] => rfl
  | b :: r => by
    rw [List.map_cons, List.sum_cons, List.map_cons, List.sum_cons, sumNat r]
    omega
theorem sum_snoc (l : List Nat) (n : Nat) : (l ++ [n]).sum = l.sum + n := by simp
theorem take_map_sum {α : Type} (f : α → Nat) (l : List α) {i : Nat} {x : α} (h : l[i]? = some x) : ((l.take (i + 1)).map f).sum = ((l.take i).map f).sum + f x := by
  rw [List.take_add_one, h, List.map_append, List.sum_append]
  simp

/-! ### the law's size -/
def spSize (K : PySem.W.Frag) (n : Nat) : Sp := fun vs H Q _ => ∃ (v : V) (b : Blk), vs = [v] ∧ Dp K H v b.enc ∧ b.dp < n ∧ ∀ H', Kp [] H H' → Q (.int (b.size : Nat)) H'
theorem sc_size : FnScope ["_law_block", "_law_found", "_law_statement", "_law_parts", "_law_part"] ["_law_block"] (C8.fnScope (topS 71)) := C8.fnScope_by (by decide +kernel)
section
variable {P : Program} {w : World} {K : PySem.W.Frag} {mg : Str → Option Value} {base : Heap}
set_option maxHeartbeats 1000000
theorem size_step (T : Txt K mg) (n : Nat) (c__law_size : C8.Cal P w K mg base n "_law_size" (spSize K n) []) : C8.Cal P w K mg base (n + 1) "_law_size" (spSize K (n + 1)) [] := by
  have nd := sc_size.nd
  refine calD T.d__law_size sc_size (fun vs H Q E h => ?_) (fun f cdv A outer s H vs Q E hr h => ?_)
  · obtain ⟨v, b, rfl, _⟩ := h
    rfl
  obtain ⟨v, b, rfl, hb, hn, q⟩ := h
  have hu := hu_of hr
  obtain ⟨a, xs, rfl, hS, hA⟩ := dp_blk hb
  refine ⟨_, (pss_cons (ps_asg pe_int (pg_name (i := 1) nd rfl (Or.inl rfl)))
  (pss_cons (ps_for PassesOwn.never rfl (pi_tup (pv 0)) (pg_name (i := 2) nd rfl (Or.inl rfl))
    (pss_cons (ps_asg (pe_mid (pe_ifExp (pt_cmpR op_in_seq (pe_ixc ix_tup (pv 2)) (pe_lst (pa_cons pe_str (pa_cons pe_str pa_nil))) (by rfl)) (pe_slF_tup (pv 2) pe_int) (pe_ifExp (pt_cmpR op_eq (pe_ixc ix_tup (pv 2)) pe_str (nomark _)) (pe_slF_tup (pv 2) pe_int) (pe_tup pa_nil)))) (pg_name (i := 3) nd rfl (Or.inl rfl)))
  (pss_one (ps_asg (pe_op op_add (pe_op op_add (pv 1) pe_int) (pe_mid (pe_callB (cr_sum rfl) (by rfl) T.z_sum (by decide +kernel) (pa_cons (pe_lc (own := [("_law_part", 4)]) rfl nd (pi_tup (pv 3)) (blkOk_by (N := ["_law_block", "_law_found", "_law_statement", "_law_parts", "_law_part"]) (sc := C8.fnScope (topS 71)) (by decide +kernel)) (fun _ _ _ _ _ => (pg_name (i := 4) nd rfl (Or.inl rfl))) (fun _ _ _ _ _ => pts_nil) (fun _ _ _ _ _ => (pe_c c__law_size hr (by omega) rfl (pa_cons (pv 4) pa_nil)))) pa_nil)))) (pg_name (i := 1) nd rfl (Or.inl rfl))))))
  (pss_one (ps_ret (pv 1))))), ?_⟩
  refine ⟨_, rfl, a, rfl, ⟨xs, hS⟩, ?_⟩
  refine for_tup (xs := xs) (fun i σ H' => ∃ v2 v3 v4, σ = [some (.ref a), some (.int (((b.toL.take i).map Stm.size).sum : Nat)), v2, v3, v4] ∧ Kp [] H H') ⟨_, _, _, rfl, Kp.refl⟩ (fun i σ H' _ ⟨_, _, _, _, k⟩ => k.sqT FreeS.nil.t hS) ?_ ?_
  · rintro i x _ H1 hx ⟨v2, v3, v4, rfl, k1⟩
    obtain ⟨st, hst, hd⟩ := dpA_map (k1.dpA FreeS.nil hA) hx
    have hm : st ∈ b.toL := List.mem_of_getElem? hst
    have hsd := toL_dp hm
    refine ⟨fun v H' => Dp K H' v (.tuple (st.blks.map Blk.enc)) ∧ Kp [] H1 H', ?_, ?_⟩
    · have kn : ∀ {t : Addr} {o : HO}, H1 t = none → Kp [] H1 (upd H1 t o) := fun ht => Kp.new ht
      refine ⟨_, rfl, ?_⟩
      cases st with
      | ifs c b1 b2 =>
        rw [Stm.enc] at hd
        refine ixd (i := 0) hd rfl fun w hw => ?_
        cases dp_str hw
        refine ⟨(by show 2 ≤ sizeLine; decide), fun t ht => ?_⟩
        refine ⟨t, _, rfl, .inl (SqL.of upd_same), rfl, rfl, _, rfl, iteT ?_⟩
        refine ⟨_, rfl, _, rfl, ?_⟩
        exact sla_from 2 ((Kp.new (M := []) ht).dp FreeS.nil hd) fun v' H' h1 k => ⟨h1, (kn ht).trans k⟩
      | «while» c b1 =>
        rw [Stm.enc] at hd
        refine ixd (i := 0) hd rfl fun w hw => ?_
        cases dp_str hw
        refine ⟨(by show 2 ≤ sizeLine; decide), fun t ht => ?_⟩
        refine ⟨t, _, rfl, .inl (SqL.of upd_same), rfl, rfl, _, rfl, iteT ?_⟩
        refine ⟨_, rfl, _, rfl, ?_⟩
        exact sla_from 2 ((Kp.new (M := []) ht).dp FreeS.nil hd) fun v' H' h1 k => ⟨h1, (kn ht).trans k⟩
      | loop b1 =>
        rw [Stm.enc] at hd
        refine ixd (i := 0) hd rfl fun w hw => ?_
        cases dp_str hw
        refine ⟨(by show 2 ≤ sizeLine; decide), fun t ht => ?_⟩
        refine ⟨t, _, rfl, .inl (SqL.of upd_same), rfl, rfl, _, rfl, iteF ?_⟩
        have hd1 := (Kp.new (M := []) (o := .lst [.str "if", .str "while"]) ht).dp FreeS.nil hd
        refine ⟨_, rfl, ?_⟩
        refine ixd (i := 0) hd1 rfl fun w hw => ?_
        cases dp_str hw
        refine ⟨rfl, _, rfl, iteT ?_⟩
        refine ⟨_, rfl, _, rfl, ?_⟩
        exact sla_from 1 hd1 fun v' H' h1 k => ⟨h1, (kn ht).trans k⟩
      | _ =>
        rw [Stm.enc] at hd
        refine ixd (i := 0) hd rfl fun w hw => ?_
        cases dp_str hw
        refine ⟨(by show 2 ≤ sizeLine; decide), fun t ht => ?_⟩
        refine ⟨t, _, rfl, .inl (SqL.of upd_same), rfl, rfl, _, rfl, iteF ?_⟩
        have hd1 := (Kp.new (M := []) (o := .lst [.str "if", .str "while"]) ht).dp FreeS.nil hd
        refine ⟨_, rfl, ?_⟩
        refine ixd (i := 0) hd1 rfl fun w hw => ?_
        cases dp_str hw
        refine ⟨rfl, _, rfl, iteF ?_⟩
        refine ⟨(by show 0 ≤ sizeLine; decide), fun u hu1 => ⟨dp_new upd_same .nil, (kn ht).trans (Kp.new hu1)⟩⟩
    · rintro v3' H2 ⟨hv, k2⟩
      obtain ⟨a3, ys, rfl, hS3, hA3⟩ := dp_tup hv
      -- found + 1 + sum
      refine ⟨_, rfl, _, _, rfl, rfl, ?_⟩
      refine ⟨fun v H' => v = .int ((st.blks.map Blk.size).sum : Nat) ∧ Kp [] H2 H', ?_, ?_⟩
      · refine ⟨_, rfl, a3, rfl, ⟨ys, hS3⟩, fun D hD => ?_⟩
        refine lc_tup (xs := ys) (fun i H' => Kp [] H2 H' ∧ H' D = some (.lst ((st.blks.take i).map fun b => V.int (b.size : Nat)))) ⟨Kp.new hD, upd_same⟩ (fun i H' _ ⟨k, _⟩ => k.sqT FreeS.nil.t hS3) ?_ ?_
        · rintro j y H3 hy ⟨k3, hD3⟩
          obtain ⟨b1, hb1, hd1⟩ := dpA_map (k3.dpA FreeS.nil hA3) hy
          have hb1m := blks_dp (List.mem_of_getElem? hb1)
          have hj : j < 2 := Nat.lt_of_lt_of_le (List.getElem?_eq_some_iff.mp hb1).1 (blks_len st)
          refine ⟨rfl, ?_⟩
          refine ⟨_, rfl, y, b1, rfl, hd1, by omega, fun H4 k4 => ?_⟩
          refine ⟨_, k4.at hD3 (by simp), sm' (by rw [List.length_map, List.length_take]; omega), fun c u hc e => ?_, ?_⟩
          · rw [upd_ne (ne_of_none e hD)]
            exact k4 _ _ hc (k3 _ _ hc e)
          · rw [upd_same, List.take_add_one, hb1, List.map_append]
            rfl
        · rintro H3 ⟨k3, hD3⟩
          have e : st.blks.take ys.length = st.blks := List.take_of_length_le (by rw [dpA_len hA3, List.length_map]; exact Nat.le_refl _)
          rw [e] at hD3
          refine ⟨D, (st.blks.map fun b => ((b.size : Nat) : Int)), rfl, ?_, ?_, k3⟩
          · rw [List.map_map]
            exact SqL.of hD3
          · exact congrArg V.int (sumNat st.blks)
      · rintro _ H3 ⟨rfl, k3⟩
        refine ⟨_, _, rfl, rfl, ?_⟩
        refine ⟨some x, some (.ref a3), v4, ?_, k1.trans (k2.trans k3)⟩
        show [some (V.ref a), some (V.int ((((List.map Stm.size (List.take i b.toL)).sum : Nat) : Int) + 1 + (((st.blks.map Blk.size).sum : Nat) : Int))), some x, some (.ref a3), v4] = _
        have e1 := take_map_sum Stm.size b.toL hst
        have e2 := blks_size st
        rw [e1]
        have e3 : (((List.map Stm.size (List.take i b.toL)).sum + st.size : Nat) : Int) = ((List.map Stm.size (List.take i b.toL)).sum : Nat) + 1 + ((st.blks.map Blk.size).sum : Nat) := by omega
        rw [e3]
  · rintro _ H1 ⟨v2, v3, v4, rfl, k1⟩
    have e : b.toL.take xs.length = b.toL := List.take_of_length_le (by rw [dpA_len hA, List.length_map]; exact Nat.le_refl _)
    rw [e, ← toL_size]
    exact ⟨_, rfl, q _ k1⟩
end
end Sv
end
section
set_option Elab.async false
set_option linter.all false
set_option autoImplicit false
set_option maxRecDepth 100000
/-! W5: the drawn program; relisted data. -/
namespace Sv
open PySem PySem.Spec PyProof.Rows L2
open C8 (pe_c pe_mt pe_mt0 pe_mk pe_gc)

section
variable {P : Program} {w : World} {K : PySem.W.Frag} {mg : Str → Option Value} {base : Heap}
theorem blk_ok (T : Txt K mg) : ∀ D, C8.Cal P w K mg base (6 + D) "_law_some_block" (spBlk K D) []
  | 0 => calVac T.d__law_some_block fun vs H Q E h => by
    obtain ⟨p, a, d, l, N, n, _, hd, _⟩ := h
    exact absurd hd (Nat.not_lt_zero _)
  | D + 1 => blk_step T D (blk_ok T D)
theorem size_ok (T : Txt K mg) : ∀ n, C8.Cal P w K mg base n "_law_size" (spSize K n) []
  | 0 => calVac T.d__law_size fun vs H Q E h => by
    obtain ⟨v, b, _, _, hd, _⟩ := h
    exact absurd hd (Nat.not_lt_zero _)
  | n + 1 => size_step T n (size_ok T n)
end
/-! ### the names -/
def nm0 (s : Str) (b : Bool) : Str := if b then "x" ++ s else "" ++ s
def nmL : List Bool → List Str → List Str
  | b :: bs, s :: ss => nm0 s b :: nmL bs ss
  | _, _ => []
abbrev abc : List Str := ["a", "b", "c"]
def nm (bs : List Bool) : List Str := nmL bs abc
structure Nm (N : List Str) : Prop where
  ex : ∃ bs : List Bool, 1 ≤ bs.length ∧ bs.length ≤ 3 ∧ N = nm bs
theorem nmL_len : ∀ (bs : List Bool) (ss : List Str), bs.length ≤ ss.length → (nmL bs ss).length = bs.length
  | [], _, _ => by cases ‹List Str› <;> rfl
  | b :: bs, [], h => by simp at h
  | b :: bs, s :: ss, h => by
    show (nmL bs ss).length + 1 = bs.length + 1
    rw [nmL_len bs ss (by simpa using h)]
theorem nmL_snoc : ∀ (bs : List Bool) (ss : List Str) (b : Bool) (s : Str), ss[bs.length]? = some s → nmL (bs ++ [b]) ss = nmL bs ss ++ [nm0 s b]
  | [], [], b, s, h => by simp at h
  | [], t :: ss, b, s, h => by
    have e : t = s := Option.some.inj h
    rw [e]
    show nm0 s b :: nmL [] ss = [nm0 s b]
    cases ss <;> rfl
  | c :: bs, [], b, s, h => by simp at h
  | c :: bs, t :: ss, b, s, h => by
    show nm0 t c :: nmL (bs ++ [b]) ss = nm0 t c :: (nmL bs ss ++ [nm0 s b])
    rw [nmL_snoc bs ss b s (by simpa using h)]
theorem nm_len {bs : List Bool} (h : bs.length ≤ 3) : (nm bs).length = bs.length := nmL_len bs _ h
/-- what is true of each of them -/
theorem Nm.all {p : List Str → Bool} (hp : ([[false], [true], [false, false], [false, true], [true, false], [true, true], [false, false, false], [false, false, true], [false, true, false], [false, true, true], [true, false, false], [true, false, true], [true, true, false], [true, true, true]].all fun bs => p (nm bs)) = true) {N : List Str} (h : Nm N) : p N = true := by
  obtain ⟨bs, h1, h3, rfl⟩ := h.ex
  refine List.all_eq_true.mp hp bs ?_
  match bs, h1, h3 with
  | [a], _, _ => cases a <;> decide
  | [a, b], _, _ => cases a <;> cases b <;> decide
  | [a, b, c], _, _ => cases a <;> cases b <;> cases c <;> decide
theorem Nm.len {N : List Str} (h : Nm N) : 1 ≤ N.length ∧ N.length ≤ 3 := by
  obtain ⟨bs, h1, h3, rfl⟩ := h.ex
  rw [nm_len h3]
  exact ⟨h1, h3⟩
theorem Nm.nodup {N : List Str} (h : Nm N) : N.Nodup := of_decide_eq_true (h.all (p := fun N => decide N.Nodup) (by decide +kernel))

theorem dS3 : ∀ d, d < 3 → dpS (d + 1) ≤ 17 ∧ dpS d ≤ 12 := by decide
theorem cost3 : ∀ d, d < 3 → blkC' d ≤ blkC' 2 := by decide
def progC : Nat := 1 + 3 + 1 + 1 + blkC' 2 + blkC' 1 + 1
/-- a drawn program: its names, how many of them are inputs, its block -/
structure PrOk (N : List Str) (k : Nat) (b : Blk) : Prop where
  nm : Nm N
  k : k ≤ N.length
  ok : b.ok N false
  size : b.size ≤ 39
  dp : b.dp ≤ 17
def prEnc (N : List Str) (k : Nat) (b : Blk) : PyData := .tuple [.tuple ((N.take k).map .str), b.enc]
def spProg (K : PySem.W.Frag) : Sp := fun vs H Q _ => ∃ (p : Pn) (n : Nat), vs = [.ref p] ∧ PenAt H p n ∧ n + progC ≤ penMax ∧
  ∀ (N : List Str) (k : Nat) (b : Blk) (v : V) (H' : Hp), PrOk N k b → Dp K H' v (prEnc N k b) → Kp [p] H H' → PenAt H' p (n + progC) → Q v H'
theorem sc_prog : FnScope ["_law_pen_here", "_law_names", "_law_many", "_law_block", "_law_name"] ["_law_pen_here"] (C8.fnScope (topS 72)) := C8.fnScope_by (by decide +kernel)
theorem dpA_strs {K : PySem.W.Frag} {H : Hp} : ∀ N : List Str, DpAll K H (N.map V.str) (N.map PyData.str)
  | [] => .nil
  | x :: r => .cons (.str x) (dpA_strs r)
section
variable {P : Program} {w : World} {K : PySem.W.Frag} {mg : Str → Option Value} {base : Heap}
set_option maxHeartbeats 1000000
theorem prog_ok (T : Txt K mg) : C8.Cal P w K mg base 30 "_law_some_program" (spProg K) [] := by
  have nd := sc_prog.nd
  have c__law_draw := draw_ok (P := P) (w := w) (base := base) T
  have c__law_pick := pick_ok (P := P) (w := w) (base := base) T
  have c__law_some_block := blk_ok (P := P) (w := w) (base := base) T 3
  have c__law_size := size_ok (P := P) (w := w) (base := base) T 17
  refine calD T.d__law_some_program sc_prog (fun vs H Q E h => ?_) (fun f cdv A outer s H vs Q E hr h => ?_)
  · obtain ⟨p, n, rfl, _⟩ := h
    rfl
  obtain ⟨p, n, rfl, hP, hn, q⟩ := h
  have hu := hu_of hr
  unfold progC at hn q
  refine ⟨_, (pss_cons (ps_asg (pe_slT_lst (pe_lst (pa_cons pe_str (pa_cons pe_str (pa_cons pe_str pa_nil)))) (pe_op op_add pe_int (pe_c c__law_draw hr (by omega) rfl (pa_cons (pv 0) (pa_cons pe_int pa_nil))))) (pg_name (i := 1) nd rfl (Or.inl rfl)))
  (C8.pss_cut (ps_setLc (i := 1) (own := [("_law_name", 4)]) rfl nd rfl rfl (sw_true rfl rfl rfl (by decide +kernel)) (pi_list (pv 1)) (blkOk_by (N := ["_law_pen_here", "_law_names", "_law_many", "_law_block", "_law_name"]) (sc := C8.fnScope (topS 72)) (by decide +kernel)) (fun _ _ _ _ _ => (pg_name (i := 4) nd rfl (Or.inl rfl))) (fun _ _ _ _ _ => pts_nil) (fun _ _ _ _ _ => (pe_op op_add_str (pe_c c__law_pick hr (by omega) rfl (pa_cons (pv 0) (pa_cons (pe_lst (pa_cons pe_str (pa_cons pe_str pa_nil))) pa_nil))) (pv 4))))
  (pss_cons (ps_asg (pe_c c__law_draw hr (by omega) rfl (pa_cons (pv 0) (pa_cons (pe_op op_add (pe_callB call_len_seq (by rfl) T.z_len PySem.boot_len (pa_cons (pv 1) pa_nil)) pe_int) pa_nil))) (pg_name (i := 2) nd rfl (Or.inl rfl)))
  (pss_cons (ps_asg (pe_c c__law_some_block hr (by omega) rfl (pa_cons (pv 0) (pa_cons (pv 1) (pa_cons (pe_c c__law_pick hr (by omega) rfl (pa_cons (pv 0) (pa_cons (pe_lst (pa_cons pe_int (pa_cons pe_int (pa_cons pe_int pa_nil)))) pa_nil))) (pa_cons pe_bl pa_nil))))) (pg_name (i := 3) nd rfl (Or.inl rfl)))
  (C8.pss_cut (ps_if (pt_cmpR op_gt (pe_c c__law_size hr (by omega) rfl (pa_cons (pv 3) pa_nil)) pe_int (nomark _)) (pss_one (ps_asg (pe_c c__law_some_block hr (by omega) rfl (pa_cons (pv 0) (pa_cons (pv 1) (pa_cons pe_int (pa_cons pe_bl pa_nil))))) (pg_name (i := 3) nd rfl (Or.inl rfl)))) pss_nil)
  (pss_one (ps_ret (pe_tup (pa_cons (pe_callTy call_tuple_of (by rfl) T.z_tuple (by decide +kernel) (pa_cons (pe_slT_lst (pv 1) (pv 2)) pa_nil)) (pa_cons (pe_op op_catA (pv 3) (pe_c c__law_pick hr (by omega) rfl (pa_cons (pv 0) (pa_cons (pe_lst (pa_cons (pe_tup pa_nil) (pa_cons (pe_tup (pa_cons (pe_tup (pa_cons pe_str (pa_cons (pe_ixc ix_list (pv 1)) pa_nil))) pa_nil)) pa_nil))) pa_nil)))) pa_nil)))))))))), ?_⟩
  -- the names
  refine ⟨(by show 3 ≤ sizeLine; decide), fun t ht => ?_⟩
  refine ⟨_, rfl, p, _, n, rfl, hP.new ht, by omega, by decide, by decide, fun r H1 r0 r1 k1 hP1 => ?_⟩
  have ht1 : H1 t = some (.lst [.str "a", .str "b", .str "c"]) := (hP.new ht).l k1 upd_same
  refine ⟨_, _, rfl, rfl, _, rfl, t, _, rfl, SqL.of ht1, fun u hu1 => ?_⟩
  obtain ⟨c, hc1, hc3, ec⟩ : ∃ c : Nat, 1 ≤ c ∧ c ≤ 3 ∧ (1 : Int) + r = (c : Nat) := ⟨(1 + r).toNat, by omega, by omega, by omega⟩
  have ecut : cutV [V.str "a", .str "b", .str "c"] none (some (1 + r)) = (abc.take c).map V.str := by
    rw [ec, cutV_to, List.map_take]
    rfl
  have k2 : Kp [p] H (upd H1 u (.lst ((abc.take c).map V.str))) := (Kp.new ht).trans (k1.trans (Kp.new hu1))
  have hP2 : PenAt (upd H1 u (.lst ((abc.take c).map V.str))) p (n + 1) := hP1.new hu1
  have cl : (abc.take c).length = c := by rw [List.length_take]; show min c 3 = c; omega
  refine ⟨fun σ' H' => ∃ (a : Addr) (N : List Str), Nm N ∧ σ' = [some (.ref p), some (.ref a), none, none, none] ∧ H' a = some (.lst (N.map V.str)) ∧ Kp [p] H H' ∧ PenAt H' p (n + 4), ?_, ?_⟩
  · rw [ecut]
    refine ⟨_, rfl, u, rfl, ⟨_, SqL.of upd_same⟩, fun D hD => ?_⟩
    refine lc_list (xs := (abc.take c).map V.str) (fun i H' => ∃ bs : List Bool, bs.length = i ∧ H' D = some (.lst ((nm bs).map V.str)) ∧ Kp [p] (upd H1 u (.lst ((abc.take c).map V.str))) H' ∧ PenAt H' p (n + 1 + i)) ⟨[], rfl, upd_same, Kp.new hD, hP2.new hD⟩ (fun i H' _ ⟨bs, _, _, k, _⟩ => k.sqL hP2.frees (SqL.of upd_same)) ?_ ?_
    · rintro i x H2 hx ⟨bs, hbs, hD2, k3, hP3⟩
      rw [List.getElem?_map] at hx
      obtain ⟨y, hy, rfl⟩ := Option.map_eq_some_iff.mp hx
      have hic : i < c := by
        have := (List.getElem?_eq_some_iff.mp hy).1
        omega
      refine ⟨rfl, ?_⟩
      refine ⟨_, rfl, (by show 2 ≤ sizeLine; decide), fun z hz => ?_⟩
      refine ⟨p, z, _, _, rfl, SqL.of upd_same, by show 0 < 2; decide, by show 2 < 1000000; decide, hP3.new hz, by omega, fun v H4 hv k4 hP4 => ?_⟩
      have hv2 : ∃ b : Bool, v = .str (if b then "x" else "") := by
        simp only [List.mem_cons, List.not_mem_nil, or_false] at hv
        rcases hv with rfl | rfl
        · exact ⟨false, rfl⟩
        · exact ⟨true, rfl⟩
      obtain ⟨b, rfl⟩ := hv2
      have hya : abc[i]? = some y := by
        rw [List.getElem?_take, if_pos hic] at hy
        exact hy
      have yl : y.length ≤ 1 := by
        have : y ∈ abc := List.mem_of_getElem? hya
        simp only [List.mem_cons, List.not_mem_nil, or_false] at this
        rcases this with rfl | rfl | rfl <;> decide
      have bl : ((if b then "x" else "" : Str)).length ≤ 1 := by cases b <;> decide
      refine ⟨_, rfl, _, _, rfl, rfl, sm (by omega), ?_⟩
      have D3 : (upd H2 z (.lst [.str "", .str "x"])) D = some (.lst ((nm bs).map V.str)) := by rw [upd_ne (ne_of_none hD2 hz)]; exact hD2
      have D4 := (hP3.new hz).l k4 D3
      have eN : (nm bs).map V.str ++ [V.str ((if b then "x" else "" : Str) ++ y)] = (nm (bs ++ [b])).map V.str := by
        unfold nm
        rw [nmL_snoc bs abc b y (by rw [hbs]; exact hya), List.map_append]
        cases b <;> rfl
      have kD : Kp [p] (upd H1 u (.lst ((abc.take c).map V.str))) H4 := k3.trans ((Kp.new hz).trans k4)
      refine ⟨_, D4, sm' (by rw [List.length_map, nm_len (by omega)]; omega), bs ++ [b], by rw [List.length_append, hbs]; rfl, ?_, fun e g he hg => ?_, ?_⟩
      · rw [upd_same, eN]
      · rw [upd_ne (ne_of_none hg hD)]
        exact kD e g he hg
      · have z := hP4.keep (Kp.put (p := D) (M := [D]) (o := .lst ((nm bs).map V.str ++ [V.str ((if b then "x" else "" : Str) ++ y)])) (by simp)) (hP2.not hD).1 (hP2.not hD).2
        rw [← Nat.add_assoc]
        exact z
    · rintro H2 ⟨bs, hbs, hD2, k3, hP3⟩
      rw [List.length_map, cl] at hbs hP3
      exact ⟨D, nm bs, ⟨bs, by omega, by omega, rfl⟩, rfl, hD2, k2.trans k3, hP3.le (by omega)⟩
  rintro _ H3 ⟨a, N, hN, rfl, ha, k3, hP3⟩
  obtain ⟨l1, l3⟩ := hN.len
  have aN : ∀ {H' : Hp}, Kp [p] H3 H' → H' a = some (.lst (N.map V.str)) := fun k => hP3.l k ha
  -- many
  refine ⟨_, rfl, _, rfl, a, _, rfl, .inl (SqL.of ha), _, _, rfl, rfl, ?_⟩
  rw [List.length_map]
  refine ⟨p, _, _, rfl, hP3, by omega, by omega, by omega, fun m H4 m0 m1 k4 hP4 => ?_⟩
  obtain ⟨kk, rfl⟩ : ∃ kk : Nat, m = (kk : Nat) := ⟨m.toNat, by omega⟩
  -- block
  refine ⟨_, rfl, _, rfl, _, rfl, (by show 3 ≤ sizeLine; decide), fun t1 ht1' => ?_⟩
  refine ⟨p, t1, _, _, rfl, SqL.of upd_same, by show 0 < 3; decide, by show 3 < 1000000; decide, hP4.new ht1', by omega, fun dv H5 hdv k5 hP5 => ?_⟩
  have k45 : Kp [p] H3 H5 := k4.trans ((Kp.new ht1').trans k5)
  have hdv2 : ∃ d : Nat, d ≤ 2 ∧ dv = .int (d : Nat) := by
    simp only [List.mem_cons, List.not_mem_nil, or_false] at hdv
    rcases hdv with rfl | rfl | rfl
    · exact ⟨1, by decide, rfl⟩
    · exact ⟨2, by decide, rfl⟩
    · exact ⟨2, by decide, rfl⟩
  obtain ⟨d, hd, rfl⟩ := hdv2
  have cost := cost3 d (by omega)
  refine ⟨p, a, d, false, N, _, rfl, by omega, aN k45, l1, l3, hP5, by omega, fun ss bv H6 hss hsok hbd k6 hP6 => ?_⟩
  have k6' := k45.trans k6
  obtain ⟨bok, bdp, bsz⟩ := blkDp hss hsok
  have dS := dS3 d (by omega)
  have hbd' : Dp K H6 bv (ofL ss).enc := by rw [Blk.enc, ofL_encs]; exact hbd
  refine ⟨fun σ' H' => ∃ (ss : List Stm) (bv : V), σ' = [some (.ref p), some (.ref a), some (.int (kk : Nat)), some bv, none] ∧ ss.length ≤ 3 ∧ (∀ s ∈ ss, s.ok N false ∧ s.dp ≤ 12) ∧ (ofL ss).size ≤ 38 ∧ Dp K H' bv (.tuple (ss.map Stm.enc)) ∧ Kp [p] H3 H' ∧ PenAt H' p (n + 4 + 1 + 1 + blkC' 2 + blkC' 1), ?_, ?_⟩
  · have bdp17 : (ofL ss).dp < 17 := by omega
    refine ⟨_, rfl, ?_⟩
    refine ⟨bv, ofL ss, rfl, hbd', bdp17, fun H7 k7 => ?_⟩
    have hP7 := hP6.kp0 k7
    refine ⟨_, _, rfl, rfl, _, rfl, ?_⟩
    refine ite2 (fun e => ?_) (fun e => ?_)
    · refine ⟨_, rfl, _, rfl, p, a, 1, false, N, _, rfl, by omega, aN (k6'.trans k7.all), l1, l3, hP7, by omega, fun ss2 bv2 H8 hss2 hsok2 hbd2 k8 hP8 => ?_⟩
      have z := (blkDp hss2 hsok2).2.2
      have z2 : 3 * szS 1 = 21 := rfl
      exact ⟨ss2, bv2, rfl, hss2, fun s hs => ⟨(hsok2 s hs).ok, Nat.le_trans (hsok2 s hs).dp (by decide)⟩, by omega, hbd2, k6'.trans (k7.all.trans k8), hP8.le (by omega)⟩
    · have e' : ¬ (38 : Int) < ((ofL ss).size : Nat) := fun z => e (decide_eq_true z)
      exact ⟨ss, bv, rfl, hss, fun s hs => ⟨(hsok s hs).ok, Nat.le_trans (hsok s hs).dp dS.2⟩, by omega, k7.dp FreeS.nil hbd, k6'.trans k7.all, hP7.le (by omega)⟩
  rintro _ H7 ⟨ss, bv, rfl, hss, hsok, hsz, hbd, k7, hP7⟩
  -- the answer
  refine ⟨_, rfl, _, rfl, _, rfl, a, _, rfl, SqL.of (aN k7), fun x hx => ?_⟩
  rw [cutV_to, ← List.map_take]
  refine ⟨x, _, rfl, .inl ⟨SqL.of upd_same, fun y hy => ?_⟩⟩
  have kx : Kp [p] H7 (upd (upd H7 x (.lst ((N.take kk).map V.str))) y (.tup ((N.take kk).map V.str))) := (Kp.new hx).trans (Kp.new hy)
  have hPy : PenAt (upd (upd H7 x (.lst ((N.take kk).map V.str))) y (.tup ((N.take kk).map V.str))) p (n + 4 + 1 + 1 + blkC' 2 + blkC' 1) := (hP7.new hx).new hy
  have ys : ∀ {H'}, Kp [p] (upd (upd H7 x (.lst ((N.take kk).map V.str))) y (.tup ((N.take kk).map V.str))) H' → Dp K H' (.ref y) (.tuple ((N.take kk).map PyData.str)) := fun k => k.dp hPy.frees (dp_new upd_same (dpA_strs _))
  generalize upd (upd H7 x (.lst ((N.take kk).map V.str))) y (.tup ((N.take kk).map V.str)) = H8 at kx hPy ys ⊢
  have k8 := k7.trans kx
  refine ⟨_, rfl, _, rfl, (by show 0 ≤ sizeLine; decide), fun e he => ?_⟩
  obtain ⟨x0, x0N, hx0⟩ : ∃ x0, x0 ∈ N ∧ atI (N.map V.str) (0 : Nat) = some (.str x0) := ⟨N[0]'(by omega), List.getElem_mem _, atI_nat (by rw [List.getElem?_map, List.getElem?_eq_getElem (by omega)]; rfl)⟩
  refine ⟨_, rfl, a, _, _, _, rfl, rfl, SqL.of (aN (k8.trans (Kp.new he))), hx0, ?_⟩
  refine ⟨(by show 2 ≤ sizeLine; decide), fun g hg => ⟨(by show 1 ≤ sizeLine; decide), fun i hi => ⟨(by show 2 ≤ sizeLine; decide), fun j hj => ?_⟩⟩⟩
  have de : Dp K (upd H8 e (.tup [])) (.ref e) (.tuple []) := dp_new upd_same .nil
  have dg : Dp K (upd (upd H8 e (.tup [])) g (.tup [.str "give", .str x0])) (.ref g) (Stm.give (.nm x0)).enc := by
    rw [Stm.enc]
    exact dp_new upd_same (.cons (.str _) (.cons (.str _) .nil))
  have di : Dp K (upd (upd (upd H8 e (.tup [])) g (.tup [.str "give", .str x0])) i (.tup [.ref g])) (.ref i) (.tuple [(Stm.give (.nm x0)).enc]) := dp_new upd_same (.cons ((Kp.new (M := []) hi).dp FreeS.nil dg) .nil)
  have k9 : Kp [p] H8 (upd (upd (upd (upd H8 e (.tup [])) g (.tup [.str "give", .str x0])) i (.tup [.ref g])) j (.lst [.ref e, .ref i])) := (Kp.new he).trans ((Kp.new hg).trans ((Kp.new hi).trans (Kp.new hj)))
  have hP9 := ((((hPy.new (o := .tup []) he).new (o := .tup [.str "give", .str x0]) hg).new (o := .tup [.ref g]) hi).new (o := .lst [.ref e, .ref i]) hj)
  refine ⟨p, j, _, _, rfl, SqL.of upd_same, by show 0 < 2; decide, by show 2 < 1000000; decide, hP9, by omega, fun tv H9 htv k10 hP10 => ?_⟩
  have kA : Kp [p] H8 H9 := k9.trans k10
  have htv2 : ∃ es : List Stm, es.length ≤ 1 ∧ (∀ s ∈ es, s.ok N false ∧ s.dp ≤ 12 ∧ s.size = 1) ∧ Dp K H9 tv (.tuple (es.map Stm.enc)) := by
    simp only [List.mem_cons, List.not_mem_nil, or_false] at htv
    rcases htv with rfl | rfl
    · refine ⟨[], by decide, by simp, ?_⟩
      exact ((Kp.new (M := [p]) hg).trans ((Kp.new hi).trans ((Kp.new hj).trans k10))).dp (hPy.new he).frees de
    · refine ⟨[.give (.nm x0)], by show 1 ≤ 1; decide, fun s hs => ?_, ((Kp.new (M := [p]) hj).trans k10).dp (((hPy.new he).new hg).new hi).frees di⟩
      rw [List.mem_singleton] at hs
      rw [hs]
      exact ⟨x0N, by show 2 ≤ 12; decide, rfl⟩
  obtain ⟨es, hel, hes, hde⟩ := htv2
  refine cata (kA.dp hPy.frees (kx.dp hP7.frees hbd)) hde (by rw [List.length_map, List.length_map]; omega) fun bv2 H10 hb2 k11 => ?_
  refine ⟨(by show 2 ≤ sizeLine; decide), fun m hm => ?_⟩
  have okAll : ∀ s ∈ ss ++ es, s.ok N false ∧ s.dp ≤ 12 := fun s hs => by
    rcases List.mem_append.mp hs with z | z
    · exact hsok s z
    · exact ⟨(hes s z).1, (hes s z).2.1⟩
  have szA : (ofL (ss ++ es)).size ≤ 39 := by
    have e1 : ∀ l : List Stm, (ofL l).size = (l.map Stm.size).sum := fun l => by rw [toL_size, ofL_toL]
    rw [e1, List.map_append, List.sum_append]
    rw [e1] at hsz
    have : (es.map Stm.size).sum ≤ 1 := by
      match es, hel, hes with
      | [], _, _ => decide
      | [s], _, h => simp [(h s (by simp)).2.2]
    omega
  have dpA : (ofL (ss ++ es)).dp ≤ 17 := by
    have := ofL_dp (D := 12) fun s hs => (okAll s hs).2
    rw [List.length_append] at this
    omega
  refine q N kk (ofL (ss ++ es)) _ _ ⟨hN, by omega, ofL_ok fun s hs => (okAll s hs).1, szA, dpA⟩ ?_ (k3.trans (k8.trans (kA.trans (k11.all.trans (Kp.new hm))))) (((hP10.kp0 k11).new hm).le (by omega))
  refine dp_new upd_same (.cons ?_ (.cons ?_ .nil))
  · exact (k11.trans (Kp.new hm)).dp FreeS.nil (ys kA)
  · rw [Blk.enc, ofL_encs, List.map_append]
    exact (Kp.new (M := []) hm).dp FreeS.nil hb2
end
end Sv
end
section
set_option Elab.async false
set_option linter.all false
set_option autoImplicit false
set_option maxRecDepth 100000
/-! W6: the law's graph. -/
namespace Sv
open PySem PySem.Spec PyProof.Rows L2
open C8 (pe_c pe_mt pe_mt0 pe_mk pe_gc)

def madeK (M : Nat) (l : Addr) : List (Key × V) := [(Sum.inr "many", .int (M : Nat)), (Sum.inr "edges", .ref l)]
theorem madeK_len {M : Nat} {l : Addr} : (madeK M l).length < sizeLine := by show 2 < sizeLine; decide
structure MadeS (K : PySem.W.Frag) (H : Hp) (m : Addr) (M : Nat) (es : List Edge) (l : Addr) (xs : List V) : Prop where
  hm : H m = some (.dK (madeK M l))
  hl : H l = some (.lst xs)
  ha : DpAll K H xs (es.map Edge.enc)
structure MadeAt (K : PySem.W.Frag) (H : Hp) (m : Addr) (M : Nat) (es : List Edge) : Prop where
  ex : ∃ l xs, MadeS K H m M es l xs
section
variable {K : PySem.W.Frag} {H H' : Hp} {m l q : Addr} {M M' : Nat} {es fs : List Edge} {xs ys : List V} {o : HO}
theorem MadeS.frees (h : MadeS K H m M es l xs) : FreeS [m] H := fun b hb => by
  rw [List.mem_singleton] at hb
  rw [hb, h.hm]
  rfl
theorem MadeAt.frees (h : MadeAt K H m M es) : FreeS [m] H := by
  obtain ⟨l, xs, h⟩ := h.ex
  exact h.frees
theorem MadeS.kp0 (h : MadeS K H m M es l xs) (k : Kp [] H H') : MadeS K H' m M es l xs := ⟨k.at h.hm (by simp), k.at h.hl (by simp), k.dpA FreeS.nil h.ha⟩
theorem MadeAt.kp0 (h : MadeAt K H m M es) (k : Kp [] H H') : MadeAt K H' m M es := by
  obtain ⟨l, xs, h⟩ := h.ex
  exact ⟨l, xs, h.kp0 k⟩
theorem MadeAt.new (h : MadeAt K H m M es) (hq : H q = none) : MadeAt K (upd H q o) m M es := h.kp0 (Kp.new hq)
/-- the dict is stored to -/
theorem MadeS.put (h : MadeS K H m M es l xs) (k : Kp [] H H') (hl : H' q = some (.lst (xs ++ ys))) (hy : DpAll K H' ys (fs.map Edge.enc)) : MadeS K (upd H' m (.dK (madeK M' q))) m M' (es ++ fs) q (xs ++ ys) := by
  have h1 := h.kp0 k
  have nq : q ≠ m := ne_of hl h1.hm (by intro z; cases z)
  have kk : Kp [m] H' (upd H' m (.dK (madeK M' q))) := Kp.put (by simp)
  refine ⟨upd_same, by rw [upd_ne nq]; exact hl, ?_⟩
  rw [List.map_append]
  exact kk.dpA h1.frees (dpA_app h1.ha hy)
theorem MadeS.len (h : MadeS K H m M es l xs) : xs.length = es.length := by
  have := dpA_len h.ha
  rwa [List.length_map] at this
end
theorem edge_dp {K : PySem.W.Frag} {H : Hp} {t : Addr} {s e : Nat} {d : Deed} {dv : V} (ht : H t = some (.tup [.int (s : Nat), dv, .int (e : Nat)])) (hd : Dp K H dv d.enc) : Dp K H (.ref t) (Edge.enc ⟨s, d, e⟩) := dp_new ht (.cons (.int _) (.cons hd (.cons (.int _) .nil)))

def spFresh (K : PySem.W.Frag) : Sp := fun vs H Q _ => ∃ (m : Addr) (M : Nat) (es : List Edge), vs = [.ref m] ∧ MadeAt K H m M es ∧ ∀ H', Kp [m] H H' → MadeAt K H' m (M + 1) es → Q (.int (M : Nat)) H'
def spSC (K : PySem.W.Frag) (n : Nat) : Sp := fun vs H Q _ => ∃ (m : Addr) (v : V) (c : Cnd) (s y z M : Nat) (es : List Edge), vs = [.ref m, v, .int (s : Nat), .int (y : Nat), .int (z : Nat)] ∧ MadeAt K H m M es ∧ Dp K H v c.enc ∧ c.dp < n ∧ es.length + (standC c s y z M).2.length ≤ 10000 ∧
  ∀ H', Kp [m] H H' → MadeAt K H' m (standC c s y z M).1 (es ++ (standC c s y z M).2) → Q .non H'
theorem sc_fresh : FnScope ["_law_made"] ["_law_made"] (C8.fnScope (topS 73)) := C8.fnScope_by (by decide +kernel)
theorem sc_sc : FnScope ["_law_made", "_law_told", "_law_start", "_law_yes", "_law_no", "_law_middle", "_law_ends"] ["_law_made", "_law_told", "_law_start", "_law_yes", "_law_no"] (C8.fnScope (topS 74)) := C8.fnScope_by (by decide +kernel)
section
variable {P : Program} {w : World} {K : PySem.W.Frag} {mg : Str → Option Value} {base : Heap}
set_option maxHeartbeats 1000000
theorem fresh_ok (T : Txt K mg) : C8.Cal P w K mg base 1 "_law_fresh" (spFresh K) [] := by
  have nd := sc_fresh.nd
  refine calD T.d__law_fresh sc_fresh (fun vs H Q E h => ?_) (fun f cdv A outer s H vs Q E hr h => ?_)
  · obtain ⟨m, M, es, rfl, _⟩ := h
    rfl
  obtain ⟨m, M, es, rfl, hM, q⟩ := h
  have hu := hu_of hr
  obtain ⟨l, xs, hm⟩ := hM.ex
  refine ⟨_, (pss_cons (ps_dput hu (pv 0) pe_str (pe_op op_add (pe_dget hu (pv 0) pe_str (fun _ _ => rfl)) pe_int) rfl)
  (pss_one (ps_ret (pe_op op_sub (pe_dget hu (pv 0) pe_str (fun _ _ => rfl)) pe_int)))), ?_⟩
  refine ⟨_, rfl, m, _, rfl, DGet.k (k := Sum.inr "many") hm.hm, _, _, rfl, rfl, ?_⟩
  refine ⟨_, rfl, m, _, rfl, DPut.k (k := Sum.inr "many") hm.hm madeK_len, ?_⟩
  have e : V.int ((M : Int) + 1) = .int ((M + 1 : Nat) : Int) := rfl
  have h2 : MadeS K (upd H m (.dK (madeK (M + 1) l))) m (M + 1) (es ++ []) l (xs ++ []) := hm.put (fs := []) (ys := []) Kp.refl (by rw [List.append_nil]; exact hm.hl) .nil
  rw [List.append_nil, List.append_nil] at h2
  refine ⟨_, rfl, m, _, rfl, DGet.k (k := Sum.inr "many") h2.hm, _, _, rfl, rfl, ?_⟩
  have e2 : ((M + 1 : Nat) : Int) - 1 = (M : Int) := by omega
  show Q (.int (((M + 1 : Nat) : Int) - 1)) _
  rw [e2]
  exact q _ (Kp.put (by simp)) ⟨l, xs, h2⟩
theorem sc_step (T : Txt K mg) (n : Nat) (c__law_stand_condition : C8.Cal P w K mg base (2 + n) "_law_stand_condition" (spSC K n) []) : C8.Cal P w K mg base (2 + n + 1) "_law_stand_condition" (spSC K (n + 1)) [] := by
  have nd := sc_sc.nd
  have c__law_fresh := fresh_ok (P := P) (w := w) (base := base) T
  refine calD T.d__law_stand_condition sc_sc (fun vs H Q E h => ?_) (fun f cdv A outer s H vs Q E hr h => ?_)
  · obtain ⟨m, v, c, s, y, z, M, es, rfl, _⟩ := h
    rfl
  obtain ⟨m, v, c, s, y, z, M, es, rfl, hM, hc, hn, hle, q⟩ := h
  have hu := hu_of hr
  refine ⟨_, (pss_one (ps_if (pt_cmpR op_in_seq (pe_ixc ix_tup (pv 1)) (pe_lst (pa_cons pe_str (pa_cons pe_str (pa_cons pe_str pa_nil)))) (by rfl)) (pss_one (ps_dput hu (pv 0) pe_str (pe_op op_cat (pe_dget hu (pv 0) pe_str (fun _ _ => rfl)) (pe_lst (pa_cons (pe_tup (pa_cons (pv 2) (pa_cons (pe_tup (pa_cons pe_str (pa_cons (pv 1) (pa_cons pe_bl pa_nil)))) (pa_cons (pv 3) pa_nil)))) (pa_cons (pe_tup (pa_cons (pv 2) (pa_cons (pe_tup (pa_cons pe_str (pa_cons (pv 1) (pa_cons pe_bl pa_nil)))) (pa_cons (pv 4) pa_nil)))) pa_nil)))) rfl)) (pss_one (ps_if (pt_cmpR op_eq (pe_ixc ix_tup (pv 1)) pe_str (nomark _)) (pss_one (ps_expr (pe_c c__law_stand_condition hr (by omega) rfl (pa_cons (pv 0) (pa_cons (pe_ixc ix_tup (pv 1)) (pa_cons (pv 2) (pa_cons (pv 4) (pa_cons (pv 3) pa_nil)))))))) (pss_cons (ps_asg (pe_c c__law_fresh hr (by omega) rfl (pa_cons (pv 0) pa_nil)) (pg_name (i := 5) nd rfl (Or.inl rfl)))
  (pss_cons (ps_asg (pe_ifExp (pt_cmpR op_eq (pe_ixc ix_tup (pv 1)) pe_str (nomark _)) (pe_tup (pa_cons (pv 5) (pa_cons (pv 4) pa_nil))) (pe_tup (pa_cons (pv 3) (pa_cons (pv 5) pa_nil)))) (pg_name (i := 6) nd rfl (Or.inl rfl)))
  (pss_cons (ps_expr (pe_c c__law_stand_condition hr (by omega) rfl (pa_cons (pv 0) (pa_cons (pe_ixc ix_tup (pv 1)) (pa_cons (pv 2) (pa_cons (pe_ixc ix_tup (pv 6)) (pa_cons (pe_ixc ix_tup (pv 6)) pa_nil)))))))
  (pss_one (ps_expr (pe_c c__law_stand_condition hr (by omega) rfl (pa_cons (pv 0) (pa_cons (pe_ixc ix_tup (pv 1)) (pa_cons (pv 5) (pa_cons (pv 3) (pa_cons (pv 4) pa_nil))))))))))))))), ?_⟩
  refine ⟨_, rfl, ?_⟩
  cases c with
  | pair p =>
    obtain ⟨l, xs, hm⟩ := hM.ex
    have hlen := hm.len
    have hle2 : es.length + 2 ≤ 10000 := hle
    have hp : Dp K H v (.tuple [.str p.k.word, p.a.enc, p.b.enc]) := hc
    refine ixd (i := 0) hp rfl fun w hw => ?_
    cases dp_str hw
    refine ⟨(by show 3 ≤ sizeLine; decide), fun t ht => ?_⟩
    refine ⟨t, _, rfl, .inl (SqL.of upd_same), rfl, rfl, _, rfl, ?_⟩
    have yes : inV (.str p.k.word) [V.str "below", .str "most", .str "is"] = true := by
      obtain ⟨k, a, b⟩ := p
      cases k <;> rfl
    refine ite2 (fun _ => ?_) (fun z => absurd yes z)
    have hm1 := hm.kp0 (Kp.new (o := .lst [V.str "below", .str "most", .str "is"]) ht)
    have hc1 : Dp K (upd H t (.lst [V.str "below", .str "most", .str "is"])) v p.enc := (Kp.new (M := []) ht).dp FreeS.nil hc
    have k1 : Kp [m] H (upd H t (.lst [V.str "below", .str "most", .str "is"])) := Kp.new ht
    generalize upd H t (.lst [V.str "below", .str "most", .str "is"]) = H1 at hm1 hc1 k1 ⊢
    refine ⟨_, rfl, m, _, rfl, DGet.k (k := Sum.inr "edges") hm1.hm, ?_⟩
    refine ⟨_, rfl, _, rfl, (by show 3 ≤ sizeLine; decide), fun a ha => ⟨_, rfl, (by show 3 ≤ sizeLine; decide), fun b hb => ?_⟩⟩
    refine ⟨_, rfl, _, rfl, (by show 3 ≤ sizeLine; decide), fun a' ha' => ⟨_, rfl, (by show 3 ≤ sizeLine; decide), fun b' hb' => ?_⟩⟩
    refine ⟨(by show 2 ≤ sizeLine; decide), fun c hc' => ?_⟩
    have d1 : Dp K (upd H1 a (.tup [.str "test", v, .bl true])) (.ref a) (Deed.test p true).enc := dp_new upd_same (.cons (.str _) (.cons ((Kp.new (M := []) ha).dp FreeS.nil hc1) (.cons (.bl _) .nil)))
    have d2 : Dp K (upd (upd H1 a (.tup [.str "test", v, .bl true])) b (.tup [.int (s : Nat), .ref a, .int (y : Nat)])) (.ref b) (Edge.enc ⟨s, .test p true, y⟩) := edge_dp upd_same ((Kp.new (M := []) hb).dp FreeS.nil d1)
    have kb : Kp [] H1 (upd (upd H1 a (.tup [.str "test", v, .bl true])) b (.tup [.int (s : Nat), .ref a, .int (y : Nat)])) := (Kp.new ha).trans (Kp.new hb)
    generalize upd (upd H1 a (.tup [.str "test", v, .bl true])) b (.tup [.int (s : Nat), .ref a, .int (y : Nat)]) = H2 at *
    have d3 : Dp K (upd H2 a' (.tup [.str "test", v, .bl false])) (.ref a') (Deed.test p false).enc := dp_new upd_same (.cons (.str _) (.cons ((kb.trans (Kp.new ha')).dp FreeS.nil hc1) (.cons (.bl _) .nil)))
    have d4 : Dp K (upd (upd H2 a' (.tup [.str "test", v, .bl false])) b' (.tup [.int (s : Nat), .ref a', .int (z : Nat)])) (.ref b') (Edge.enc ⟨s, .test p false, z⟩) := edge_dp upd_same ((Kp.new (M := []) hb').dp FreeS.nil d3)
    have kb' : Kp [] H2 (upd (upd H2 a' (.tup [.str "test", v, .bl false])) b' (.tup [.int (s : Nat), .ref a', .int (z : Nat)])) := (Kp.new ha').trans (Kp.new hb')
    have d2' := kb'.dp FreeS.nil d2
    generalize upd (upd H2 a' (.tup [.str "test", v, .bl false])) b' (.tup [.int (s : Nat), .ref a', .int (z : Nat)]) = H3 at *
    have k3 : Kp [] H1 H3 := kb.trans kb'
    refine ⟨l, c, _, _, rfl, rfl, (k3.trans (Kp.new hc')).at hm1.hl (by simp), upd_same, sm (by rw [hlen]; show es.length + 2 ≤ 100000; omega), fun q1 hq1 => ?_⟩
    have k4 : Kp [] H1 (upd (upd H3 c (.lst [.ref b, .ref b'])) q1 (.lst (xs ++ [.ref b, .ref b']))) := k3.trans ((Kp.new hc').trans (Kp.new hq1))
    refine ⟨_, rfl, m, _, rfl, DPut.k (k := Sum.inr "edges") (k4.at hm1.hm (by simp)) madeK_len, ?_⟩
    refine q _ (k1.trans (k4.all.trans (Kp.put (by simp)))) ⟨q1, xs ++ [.ref b, .ref b'], ?_⟩
    refine hm1.put (fs := [⟨s, .test p true, y⟩, ⟨s, .test p false, z⟩]) k4 upd_same ?_
    exact ((Kp.new (M := []) hc').trans (Kp.new hq1)).dpA FreeS.nil (.cons d2' (.cons d4 .nil))
  | not c =>
    have hp : Dp K H v (.tuple [.str "not", c.enc]) := hc
    refine ixd (i := 0) hp rfl fun w hw => ?_
    cases dp_str hw
    refine ⟨(by show 3 ≤ sizeLine; decide), fun t ht => ?_⟩
    refine ⟨t, _, rfl, .inl (SqL.of upd_same), rfl, rfl, _, rfl, iteF ?_⟩
    have hp1 := (Kp.new (M := []) (o := .lst [V.str "below", .str "most", .str "is"]) ht).dp FreeS.nil hp
    refine ⟨_, rfl, ?_⟩
    refine ixd (i := 0) hp1 rfl fun w hw => ?_
    cases dp_str hw
    refine ⟨rfl, _, rfl, iteT ?_⟩
    refine ⟨_, rfl, _, rfl, ?_⟩
    refine ixd (i := 1) hp1 rfl fun w hw => ?_
    refine ⟨_, rfl, _, rfl, _, rfl, ?_⟩
    exact ⟨m, w, c, s, z, y, M, es, rfl, hM.new ht, hw, by rw [Cnd.dp] at hn; omega, hle, fun H' k h' => q H' ((Kp.new ht).trans k) h'⟩
  | bin b c d =>
    have hp : Dp K H v (.tuple [.str (bw b), c.enc, d.enc]) := hc
    refine ixd (i := 0) hp rfl fun w hw => ?_
    cases dp_str hw
    refine ⟨(by show 3 ≤ sizeLine; decide), fun t ht => ?_⟩
    have no : inV (.str (bw b)) [V.str "below", .str "most", .str "is"] = false := by cases b <;> rfl
    refine ⟨t, _, rfl, .inl (SqL.of upd_same), rfl, rfl, _, rfl, ?_⟩
    refine ite2 (fun z => absurd (no.symm.trans z) (by decide)) (fun _ => ?_)
    have hp1 := (Kp.new (M := []) (o := .lst [V.str "below", .str "most", .str "is"]) ht).dp FreeS.nil hp
    have k1 : Kp [m] H (upd H t (.lst [V.str "below", .str "most", .str "is"])) := Kp.new ht
    have hM1 := hM.new (o := .lst [V.str "below", .str "most", .str "is"]) ht
    generalize upd H t (.lst [V.str "below", .str "most", .str "is"]) = H1 at hp1 k1 hM1 ⊢
    refine ⟨_, rfl, ?_⟩
    refine ixd (i := 0) hp1 rfl fun w hw => ?_
    cases dp_str hw
    have no2 : ¬ V.str (bw b) = V.str "not" := by cases b <;> decide
    refine ⟨rfl, _, rfl, ?_⟩
    refine ite2 (fun z => absurd (of_decide_eq_true z) no2) (fun _ => ?_)
    refine ⟨_, rfl, m, M, es, rfl, hM1, fun H2 k2 hM2 => ?_⟩
    have hp2 := k2.dp hM1.frees hp1
    refine ⟨_, rfl, ?_⟩
    refine ixd (i := 0) hp2 rfl fun w hw => ?_
    cases dp_str hw
    refine ⟨rfl, _, rfl, ?_⟩
    rw [Cnd.dp] at hn
    cases b with
    | true =>
      refine iteT ?_
      refine ⟨_, rfl, _, rfl, (by show 2 ≤ sizeLine; decide), fun u hu1 => ?_⟩
      have hM3 := hM2.new (o := .tup [.int (M : Nat), .int (z : Nat)]) hu1
      have hp3 := (Kp.new (M := []) (o := .tup [.int (M : Nat), .int (z : Nat)]) hu1).dp FreeS.nil hp2
      have eu : SqT K (upd H2 u (.tup [.int (M : Nat), .int (z : Nat)])) u [.int (M : Nat), .int (z : Nat)] := SqT.of upd_same
      refine ⟨_, rfl, _, rfl, ?_⟩
      refine ixd (i := 1) hp3 rfl fun w1 hw1 => ?_
      refine ⟨_, rfl, _, rfl, u, _, _, _, rfl, rfl, eu, rfl, _, rfl, u, _, _, _, rfl, rfl, eu, rfl, ?_⟩
      have l1 : (standC (.bin true c d) s y z M).2 = (standC c s M z (M + 1)).2 ++ (standC d M y z (standC c s M z (M + 1)).1).2 := rfl
      rw [l1, List.length_append] at hle
      refine ⟨m, w1, c, s, M, z, M + 1, es, rfl, hM3, hw1, by omega, by omega, fun H4 k4 hM4 => ?_⟩
      have hp4 := k4.dp hM3.frees hp3
      refine ⟨_, rfl, _, rfl, ?_⟩
      refine ixd (i := 2) hp4 rfl fun w2 hw2 => ?_
      refine ⟨_, rfl, _, rfl, _, rfl, ?_⟩
      refine ⟨m, w2, d, M, y, z, _, _, rfl, hM4, hw2, by omega, by rw [List.length_append]; omega, fun H5 k5 hM5 => ?_⟩
      refine q H5 (k1.trans (k2.trans ((Kp.new hu1).trans (k4.trans k5)))) ?_
      rw [l1, ← List.append_assoc]
      exact hM5
    | false =>
      refine iteF ?_
      refine ⟨_, rfl, _, rfl, (by show 2 ≤ sizeLine; decide), fun u hu1 => ?_⟩
      have hM3 := hM2.new (o := .tup [.int (y : Nat), .int (M : Nat)]) hu1
      have hp3 := (Kp.new (M := []) (o := .tup [.int (y : Nat), .int (M : Nat)]) hu1).dp FreeS.nil hp2
      have eu : SqT K (upd H2 u (.tup [.int (y : Nat), .int (M : Nat)])) u [.int (y : Nat), .int (M : Nat)] := SqT.of upd_same
      refine ⟨_, rfl, _, rfl, ?_⟩
      refine ixd (i := 1) hp3 rfl fun w1 hw1 => ?_
      refine ⟨_, rfl, _, rfl, u, _, _, _, rfl, rfl, eu, rfl, _, rfl, u, _, _, _, rfl, rfl, eu, rfl, ?_⟩
      have l1 : (standC (.bin false c d) s y z M).2 = (standC c s y M (M + 1)).2 ++ (standC d M y z (standC c s y M (M + 1)).1).2 := rfl
      rw [l1, List.length_append] at hle
      refine ⟨m, w1, c, s, y, M, M + 1, es, rfl, hM3, hw1, by omega, by omega, fun H4 k4 hM4 => ?_⟩
      have hp4 := k4.dp hM3.frees hp3
      refine ⟨_, rfl, _, rfl, ?_⟩
      refine ixd (i := 2) hp4 rfl fun w2 hw2 => ?_
      refine ⟨_, rfl, _, rfl, _, rfl, ?_⟩
      refine ⟨m, w2, d, M, y, z, _, _, rfl, hM4, hw2, by omega, by rw [List.length_append]; omega, fun H5 k5 hM5 => ?_⟩
      refine q H5 (k1.trans (k2.trans ((Kp.new hu1).trans (k4.trans k5)))) ?_
      rw [l1, ← List.append_assoc]
      exact hM5
end
end Sv
end
section
set_option Elab.async false
set_option linter.all false
set_option autoImplicit false
set_option maxRecDepth 100000
/-! W7: the law's graph, statements and blocks. -/
namespace Sv
open PySem PySem.Spec PyProof.Rows L2
open C8 (pe_c pe_mt pe_mt0 pe_mk pe_gc)

/-! ### data that == takes -/
def OkN (N : List Str) : Prop := ∀ x ∈ N, PyData.canLay0 (.str x) = true
theorem lay_t (ds : List PyData) : PyData.canLay0 (.tuple ds) = PyData.canLayAll0 ds := by simp only [PyData.canLay0]
theorem lay_c (d : PyData) (ds : List PyData) : PyData.canLayAll0 (d :: ds) = (PyData.canLay0 d && PyData.canLayAll0 ds) := by simp only [PyData.canLayAll0]
theorem lay_n : PyData.canLayAll0 [] = true := by simp only [PyData.canLayAll0]
theorem lay_b (b : Bool) : PyData.canLay0 (.bool b) = true := by simp only [PyData.canLay0]
theorem lay_i (i : Int) : PyData.canLay0 (.int i) = true := by simp only [PyData.canLay0]
theorem dep_t (ds : List PyData) : PyData.depth (.tuple ds) = PyData.depthAll ds + 1 := by simp only [PyData.depth]
theorem dep_c (d : PyData) (ds : List PyData) : PyData.depthAll (d :: ds) = max d.depth (PyData.depthAll ds) := by simp only [PyData.depthAll]
theorem dep_n : PyData.depthAll [] = 0 := by simp only [PyData.depthAll]
theorem dep_s (x : Str) : PyData.depth (.str x) = 0 := by simp only [PyData.depth]
theorem dep_i (x : Int) : PyData.depth (.int x) = 0 := by simp only [PyData.depth]
theorem dep_b (x : Bool) : PyData.depth (.bool x) = 0 := by simp only [PyData.depth]
theorem Opd.lay {N : List Str} (hN : OkN N) : ∀ a : Opd, a.ok N → a.enc.canLay0 = true
  | .nm x, h => hN x h
  | .num i, _ => lay_i i
theorem Opd.lay' : ∀ a : Opd, a.isNum → a.enc.canLay0 = true
  | .num i, _ => lay_i i
theorem Opd.dep : ∀ a : Opd, a.enc.depth = 0
  | .nm x => dep_s x
  | .num i => dep_i i
theorem Val.lay {N : List Str} (hN : OkN N) : ∀ a : Val, a.ok N → a.enc.canLay0 = true
  | .as a, h => by
    rw [Val.enc, lay_t, lay_c, lay_c, lay_n, a.lay hN h]
    decide +kernel
  | .bin o a b, h => by
    have h2 : a.enc.canLay0 = true ∧ b.enc.canLay0 = true := by
      cases o
      · exact ⟨a.lay hN h.1, b.lay hN h.2⟩
      · exact ⟨a.lay hN h.1, b.lay hN h.2⟩
      · exact ⟨a.lay hN h.1, b.lay' h.2⟩
    rw [Val.enc, lay_t, lay_c, lay_c, lay_c, lay_n, h2.1, h2.2]
    cases o <;> decide +kernel
theorem Val.dep : ∀ a : Val, a.enc.depth = 1
  | .as a => by rw [Val.enc, dep_t, dep_c, dep_c, dep_n, dep_s, a.dep]; decide
  | .bin o a b => by rw [Val.enc, dep_t, dep_c, dep_c, dep_c, dep_n, dep_s, a.dep, b.dep]; decide
theorem Pair.lay {N : List Str} (hN : OkN N) (p : Pair) (h : p.ok N) : p.enc.canLay0 = true := by
  rw [Pair.enc, lay_t, lay_c, lay_c, lay_c, lay_n, p.a.lay hN h.1, p.b.lay hN h.2]
  cases p.k <;> decide +kernel
theorem Pair.dep (p : Pair) : p.enc.depth = 1 := by rw [Pair.enc, dep_t, dep_c, dep_c, dep_c, dep_n, dep_s, p.a.dep, p.b.dep]; decide
theorem Cnd.lay {N : List Str} (hN : OkN N) : ∀ c : Cnd, c.ok N → c.enc.canLay0 = true
  | .pair p, h => p.lay hN h
  | .not c, h => by
    rw [Cnd.enc, lay_t, lay_c, lay_c, lay_n, c.lay hN h]
    decide +kernel
  | .bin k c d, h => by
    rw [Cnd.enc, lay_t, lay_c, lay_c, lay_c, lay_n, c.lay hN h.1, d.lay hN h.2]
    cases k <;> decide +kernel
theorem Cnd.dep : ∀ c : Cnd, c.enc.depth ≤ c.dp
  | .pair p => by rw [Cnd.enc, p.dep, Cnd.dp]; exact Nat.le_refl _
  | .not c => by
    have := c.dep
    rw [Cnd.enc, dep_t, dep_c, dep_c, dep_n, dep_s, Cnd.dp]
    omega
  | .bin k c d => by
    have := c.dep
    have := d.dep
    rw [Cnd.enc, dep_t, dep_c, dep_c, dep_c, dep_n, dep_s, Cnd.dp]
    omega
theorem Cnd.dp_parts : ∀ c : Cnd, c.dp ≤ c.parts
  | .pair p => Nat.le_refl _
  | .not c => by
    have := c.dp_parts
    rw [Cnd.dp, Cnd.parts]
    omega
  | .bin k c d => by
    have := c.dp_parts
    have := d.dp_parts
    rw [Cnd.dp, Cnd.parts]
    omega
mutual
theorem Stm.lay {N : List Str} (hN : OkN N) : ∀ (s : Stm) (l : Bool), s.ok N l → s.enc.canLay0 = true
  | .set x v, l, h => by
    rw [Stm.ok] at h
    rw [Stm.enc, lay_t, lay_c, lay_c, lay_c, lay_n, hN x h.1, v.lay hN h.2]
    decide +kernel
  | .give a, l, h => by
    rw [Stm.ok] at h
    rw [Stm.enc, lay_t, lay_c, lay_c, lay_n, a.lay hN h]
    decide +kernel
  | .skip, l, h => by rw [Stm.enc]; decide +kernel
  | .brk, l, h => by rw [Stm.enc]; decide +kernel
  | .nxt, l, h => by rw [Stm.enc]; decide +kernel
  | .ifs c b1 b2, l, h => by
    rw [Stm.ok] at h
    rw [Stm.enc, lay_t, lay_c, lay_c, lay_c, lay_c, lay_n, lay_t, lay_t, c.lay hN h.1, b1.layA hN l h.2.2.1, b2.layA hN l h.2.2.2]
    decide +kernel
  | .while c b, l, h => by
    rw [Stm.ok] at h
    rw [Stm.enc, lay_t, lay_c, lay_c, lay_c, lay_n, lay_t, c.lay hN h.1, b.layA hN true h.2.2]
    decide +kernel
  | .loop b, l, h => by
    rw [Stm.ok] at h
    rw [Stm.enc, lay_t, lay_c, lay_c, lay_n, lay_t, b.layA hN true h]
    decide +kernel
theorem Blk.layA {N : List Str} (hN : OkN N) : ∀ (b : Blk) (l : Bool), b.ok N l → PyData.canLayAll0 b.encs = true
  | .nil, l, h => by rw [Blk.encs]; exact lay_n
  | .cons s b, l, h => by
    rw [Blk.ok] at h
    rw [Blk.encs, lay_c, s.lay hN l h.1, b.layA hN l h.2]
    rfl
end
mutual
theorem Stm.dep : ∀ s : Stm, s.enc.depth ≤ 2 * s.dp
  | .set x v => by rw [Stm.enc, dep_t, dep_c, dep_c, dep_c, dep_n, dep_s, dep_s, v.dep, Stm.dp]; decide
  | .give a => by rw [Stm.enc, dep_t, dep_c, dep_c, dep_n, dep_s, a.dep, Stm.dp]; decide
  | .skip => by rw [Stm.enc, dep_t, dep_c, dep_n, dep_s, Stm.dp]; decide
  | .brk => by rw [Stm.enc, dep_t, dep_c, dep_n, dep_s, Stm.dp]; decide
  | .nxt => by rw [Stm.enc, dep_t, dep_c, dep_n, dep_s, Stm.dp]; decide
  | .ifs c b1 b2 => by
    have := c.dep
    have := b1.depA
    have := b2.depA
    rw [Stm.enc, dep_t, dep_c, dep_c, dep_c, dep_c, dep_n, dep_s, dep_t, dep_t, Stm.dp]
    omega
  | .while c b => by
    have := c.dep
    have := b.depA
    rw [Stm.enc, dep_t, dep_c, dep_c, dep_c, dep_n, dep_s, dep_t, Stm.dp]
    omega
  | .loop b => by
    have := b.depA
    rw [Stm.enc, dep_t, dep_c, dep_c, dep_n, dep_s, dep_t, Stm.dp]
    omega
theorem Blk.depA : ∀ b : Blk, PyData.depthAll b.encs ≤ 2 * b.dp
  | .nil => by rw [Blk.encs, dep_n]; omega
  | .cons s b => by
    have := s.dep
    have := b.depA
    rw [Blk.encs, dep_c, Blk.dp]
    omega
end
theorem Blk.shaped {N : List Str} (hN : OkN N) {b : Blk} {l : Bool} (h : b.ok N l) (hd : b.dp ≤ 30) : SeqAt.shaped b.enc = true := by
  unfold SeqAt.shaped
  have := b.depA
  rw [Blk.enc, lay_t, b.layA hN l h, dep_t, decide_eq_true (by omega)]
  rfl
theorem Deed.lay {N : List Str} (hN : OkN N) : ∀ d : Deed, (match d with | .test p _ => p.ok N | .skip => True | .set x v => x ∈ N ∧ v.ok N | .give a => a.ok N) → SeqAt.shaped d.enc = true
  | .test p t, h => by
    unfold SeqAt.shaped
    rw [Deed.enc, lay_t, lay_c, lay_c, lay_c, lay_n, p.lay hN h, lay_b, dep_t, dep_c, dep_c, dep_c, dep_n, dep_s, p.dep, dep_b]
    decide +kernel
  | .skip, h => by rw [Deed.enc]; decide +kernel
  | .set x v, h => by
    unfold SeqAt.shaped
    rw [Deed.enc, lay_t, lay_c, lay_c, lay_c, lay_n, hN x h.1, v.lay hN h.2, dep_t, dep_c, dep_c, dep_c, dep_n, dep_s, dep_s, v.dep]
    decide +kernel
  | .give a, h => by
    unfold SeqAt.shaped
    rw [Deed.enc, lay_t, lay_c, lay_c, lay_n, a.lay hN h, dep_t, dep_c, dep_c, dep_n, dep_s, a.dep]
    decide +kernel
theorem blk_eq_nil : ∀ b : Blk, PyData.eqv b.enc (.tuple []) = decide (b.toL = [])
  | .nil => by rw [Blk.enc, Blk.encs, eqv_tup, eqvAll_nil]; rfl
  | .cons s b => by rw [Blk.enc, Blk.encs, eqv_tup, eqvAll_cn]; rfl

/-- a point, or None where no loop stands around -/
def SpV (l : Bool) (v : V) (o : Nat) : Prop := v = .int (o : Nat) ∨ (l = false ∧ v = .non)
def SpotsAt (K : PySem.W.Frag) (H : Hp) (l : Bool) (a : Addr) (s e o g : Nat) : Prop := ∃ vo vg, SqT K H a [.int (s : Nat), .int (e : Nat), vo, vg] ∧ SpV l vo o ∧ SpV l vg g
theorem SpotsAt.kp {K : PySem.W.Frag} {M : List Addr} {H H' : Hp} {l : Bool} {a : Addr} {s e o g : Nat} (h : SpotsAt K H l a s e o g) (k : Kp M H H') (f : FreeS M H) : SpotsAt K H' l a s e o g := by
  obtain ⟨vo, vg, h1, h2, h3⟩ := h
  exact ⟨vo, vg, k.sqT f.t h1, h2, h3⟩
def spSS (K : PySem.W.Frag) (n : Nat) : Sp := fun vs H Q _ => ∃ (m : Addr) (v : V) (sp : Addr) (st : Stm) (N : List Str) (l : Bool) (s e o g M : Nat) (es : List Edge), vs = [.ref m, v, .ref sp] ∧ MadeAt K H m M es ∧ Dp K H v st.enc ∧ SpotsAt K H l sp s e o g ∧ OkN N ∧ st.ok N l ∧ st.dp < n ∧ st.dp ≤ 30 ∧
  es.length + (standS st s e o g M).2.length ≤ 10000 ∧ ∀ H', Kp [m] H H' → MadeAt K H' m (standS st s e o g M).1 (es ++ (standS st s e o g M).2) → Q .non H'
def spSB (K : PySem.W.Frag) (n : Nat) : Sp := fun vs H Q _ => ∃ (m : Addr) (v : V) (sp : Addr) (b : Blk) (N : List Str) (l : Bool) (s e o g M : Nat) (es : List Edge), vs = [.ref m, v, .ref sp] ∧ MadeAt K H m M es ∧ Dp K H v b.enc ∧ SpotsAt K H l sp s e o g ∧ OkN N ∧ b.ok N l ∧ b.dp < n ∧ b.dp ≤ 30 ∧
  es.length + (standB b s e o g M).2.length ≤ 10000 ∧ ∀ H', Kp [m] H H' → MadeAt K H' m (standB b s e o g M).1 (es ++ (standB b s e o g M).2) → Q .non H'
theorem sc_ss : FnScope ["_law_made", "_law_told", "_law_spots", "_law_start", "_law_end", "_law_out", "_law_again", "_law_yes", "_law_no"] ["_law_made", "_law_told", "_law_spots"] (C8.fnScope (topS 75)) := C8.fnScope_by (by decide +kernel)
theorem sc_sb : FnScope ["_law_made", "_law_block", "_law_spots", "_law_middle"] ["_law_made", "_law_block", "_law_spots"] (C8.fnScope (topS 76)) := C8.fnScope_by (by decide +kernel)
section
variable {P : Program} {w : World} {K : PySem.W.Frag} {mg : Str → Option Value} {base : Heap}
theorem sc_ok (T : Txt K mg) : ∀ n, C8.Cal P w K mg base (2 + n) "_law_stand_condition" (spSC K n) []
  | 0 => calVac T.d__law_stand_condition fun vs H Q E h => by
    obtain ⟨m, v, c, s, y, z, M, es, _, _, _, hd, _⟩ := h
    exact absurd hd (Nat.not_lt_zero _)
  | n + 1 => sc_step T n (sc_ok T n)
set_option maxHeartbeats 1000000
/-- one more edge -/
theorem add_edge {m : Addr} {M : Nat} {es : List Edge} {H H1 : Hp} {l : Addr} {xs : List V} {e : Edge} {t : Addr} {Q : Hp → Prop} (hm : MadeS K H m M es l xs) (k : Kp [] H H1) (he : Dp K H1 (.ref t) e.enc) (hle : es.length + 1 ≤ 10000)
    (q : ∀ H', Kp [m] H H' → MadeAt K H' m M (es ++ [e]) → Q H') :
    1 ≤ sizeLine ∧ ∀ c, H1 c = none → ∃ a b ys zs, V.ref l = .ref a ∧ V.ref c = .ref b ∧ (upd H1 c (.lst [.ref t])) a = some (.lst ys) ∧ (upd H1 c (.lst [.ref t])) b = some (.lst zs) ∧ ys.length + zs.length ≤ sizeLine ∧
      ∀ p, (upd H1 c (.lst [.ref t])) p = none → DPut (upd (upd H1 c (.lst [.ref t])) p (.lst (ys ++ zs))) m (.str "edges") (.ref p) (upd (upd (upd H1 c (.lst [.ref t])) p (.lst (ys ++ zs))) m (.dK (madeK M p))) ∧ Q (upd (upd (upd H1 c (.lst [.ref t])) p (.lst (ys ++ zs))) m (.dK (madeK M p))) := by
  refine ⟨by decide, fun c hc => ⟨l, c, xs, _, rfl, rfl, (k.trans (Kp.new hc)).at hm.hl (by simp), upd_same, sm (by rw [hm.len]; show es.length + 1 ≤ 100000; omega), fun p hp => ?_⟩⟩
  have k4 : Kp [] H (upd (upd H1 c (.lst [.ref t])) p (.lst (xs ++ [.ref t]))) := k.trans ((Kp.new hc).trans (Kp.new hp))
  refine ⟨DPut.k (k := Sum.inr "edges") (k4.at hm.hm (by simp)) madeK_len, q _ (k4.all.trans (Kp.put (by simp))) ⟨p, xs ++ [.ref t], ?_⟩⟩
  exact hm.put (fs := [e]) k4 upd_same (((Kp.new (M := []) hc).trans (Kp.new hp)).dpA FreeS.nil (.cons he .nil))
theorem sb_step (T : Txt K mg) (n : Nat) (c__law_stand_statement : C8.Cal P w K mg base (9 + n) "_law_stand_statement" (spSS K n) []) (c__law_stand_block : C8.Cal P w K mg base (9 + n) "_law_stand_block" (spSB K n) []) : C8.Cal P w K mg base (9 + n + 1) "_law_stand_block" (spSB K (n + 1)) [] := by
  have nd := sc_sb.nd
  have c__law_fresh := fresh_ok (P := P) (w := w) (base := base) T
  refine calD T.d__law_stand_block sc_sb (fun vs H Q E h => ?_) (fun f cdv A outer s0 H vs Q E hr h => ?_)
  · obtain ⟨m, v, sp, b, N, l, s, e, o, g, M, es, rfl, _⟩ := h
    rfl
  obtain ⟨m, v, sp, b, N, l, s, e, o, g, M, es, rfl, hM, hb, hS, hN, hok, hn, hd, hle, q⟩ := h
  have hu := hu_of hr
  refine ⟨_, (pss_one (ps_if (pt_cmpR (op_eqD hr.units) (pv 1) (pe_tup pa_nil) (nomark _)) (pss_one (ps_dput hu (pv 0) pe_str (pe_op op_cat (pe_dget hu (pv 0) pe_str (fun _ _ => rfl)) (pe_lst (pa_cons (pe_tup (pa_cons (pe_ixc ix_tup (pv 2)) (pa_cons (pe_tup (pa_cons pe_str pa_nil)) (pa_cons (pe_ixc ix_tup (pv 2)) pa_nil)))) pa_nil))) rfl)) (pss_one (ps_if (pt_cmpR op_eq (pe_callB call_len_seq (by rfl) T.z_len PySem.boot_len (pa_cons (pv 1) pa_nil)) pe_int (nomark _)) (pss_one (ps_expr (pe_c c__law_stand_statement hr (by omega) rfl (pa_cons (pv 0) (pa_cons (pe_ixc ix_tup (pv 1)) (pa_cons (pv 2) pa_nil)))))) (pss_cons (ps_asg (pe_c c__law_fresh hr (by omega) rfl (pa_cons (pv 0) pa_nil)) (pg_name (i := 3) nd rfl (Or.inl rfl)))
  (pss_cons (ps_expr (pe_c c__law_stand_statement hr (by omega) rfl (pa_cons (pv 0) (pa_cons (pe_ixc ix_tup (pv 1)) (pa_cons (pe_tup (pa_cons (pe_ixc ix_tup (pv 2)) (pa_cons (pv 3) (pa_cons (pe_ixc ix_tup (pv 2)) (pa_cons (pe_ixc ix_tup (pv 2)) pa_nil))))) pa_nil)))))
  (pss_one (ps_expr (pe_c c__law_stand_block hr (by omega) rfl (pa_cons (pv 0) (pa_cons (pe_slF_tup (pv 1) pe_int) (pa_cons (pe_tup (pa_cons (pv 3) (pa_cons (pe_ixc ix_tup (pv 2)) (pa_cons (pe_ixc ix_tup (pv 2)) (pa_cons (pe_ixc ix_tup (pv 2)) pa_nil))))) pa_nil)))))))))))), ?_⟩
  refine ⟨_, rfl, (by show 0 ≤ sizeLine; decide), fun t ht => ?_⟩
  refine ⟨b.enc, .tuple [], (Kp.new (M := []) ht).dp FreeS.nil hb, dp_new upd_same .nil, b.shaped hN hok hd, by decide +kernel, _, rfl, ?_⟩
  rw [blk_eq_nil]
  have k1 : Kp [m] H (upd H t (.tup [])) := Kp.new ht
  have hM1 := hM.new (o := .tup []) ht
  have hb1 := (Kp.new (M := []) (o := .tup []) ht).dp FreeS.nil hb
  obtain ⟨vo, vg, hS1, hvo, hvg⟩ := hS.kp (Kp.new (M := []) (o := .tup []) ht) FreeS.nil
  generalize upd H t (.tup []) = H1 at *
  cases b with
  | nil =>
    obtain ⟨li, xs, hm⟩ := hM1.ex
    refine iteT ?_
    refine ⟨_, rfl, m, _, rfl, DGet.k (k := Sum.inr "edges") hm.hm, ?_⟩
    refine ⟨_, rfl, sp, _, _, _, rfl, rfl, hS1, rfl, (by show 1 ≤ sizeLine; decide), fun a ha => ?_⟩
    refine ⟨_, rfl, sp, _, _, _, rfl, rfl, (Kp.new (M := []) ha).sqT FreeS.nil.t hS1, rfl, (by show 3 ≤ sizeLine; decide), fun c hc => ?_⟩
    have d1 : Dp K (upd H1 a (.tup [.str "skip"])) (.ref a) Deed.skip.enc := dp_new upd_same (.cons (.str _) .nil)
    have d2 : Dp K (upd (upd H1 a (.tup [.str "skip"])) c (.tup [.int (s : Nat), .ref a, .int (e : Nat)])) (.ref c) (Edge.enc ⟨s, .skip, e⟩) := edge_dp upd_same ((Kp.new (M := []) hc).dp FreeS.nil d1)
    obtain ⟨z0, z⟩ := add_edge (Q := fun H' => Q .non H') hm ((Kp.new (M := []) ha).trans (Kp.new hc)) d2 (by rw [standB] at hle; exact hle) fun H' k h => q H' (k1.trans k) (by rw [standB]; exact h)
    refine ⟨z0, fun c1 hc1 => ?_⟩
    obtain ⟨a', b', ys, zs, z1, z2, z3, z4, z5, z6⟩ := z c1 hc1
    refine ⟨a', b', ys, zs, z1, z2, z3, z4, z5, fun p hp => ?_⟩
    exact ⟨_, rfl, m, _, rfl, (z6 p hp).1, (z6 p hp).2⟩
  | cons st rest =>
    refine iteF ?_
    have hb2 : Dp K H1 v (.tuple (st.enc :: rest.encs)) := by
      have := hb1
      rw [Blk.enc, Blk.encs] at this
      exact this
    obtain ⟨av, xs, rfl, hSv, hA⟩ := dp_tup hb2
    have hlen := dpA_len hA
    rw [List.length_cons, Blk.encs_len] at hlen
    rw [Blk.ok] at hok
    rw [Blk.dp] at hn hd
    refine ⟨_, rfl, av, _, rfl, .inr hSv, rfl, _, rfl, ?_⟩
    cases rest with
    | nil =>
      refine ite2 (fun _ => ?_) (fun z => absurd (decide_eq_true (congrArg V.int (by rw [hlen]; rfl))) z)
      refine ⟨_, rfl, _, rfl, ?_⟩
      refine ixd (i := 0) hb2 rfl fun w hw => ?_
      refine ⟨_, rfl, ?_⟩
      exact ⟨m, w, sp, st, N, l, s, e, o, g, M, es, rfl, hM1, hw, ⟨vo, vg, hS1, hvo, hvg⟩, hN, hok.1, by omega, by omega, by rw [standB] at hle; exact hle, fun H' k h => q H' (k1.trans k) (by rw [standB]; exact h)⟩
    | cons st2 rest2 =>
      refine ite2 (fun z => absurd (V.int.inj (of_decide_eq_true z)) (by rw [hlen, Blk.len]; omega)) (fun _ => ?_)
      rw [standB, List.length_append] at hle
      refine ⟨_, rfl, m, M, es, rfl, hM1, fun H2 k2 hM2 => ?_⟩
      have hb3 := k2.dp hM1.frees hb2
      have hS3 := k2.sqT hM1.frees.t hS1
      refine ⟨_, rfl, _, rfl, ?_⟩
      refine ixd (i := 0) hb3 rfl fun w hw => ?_
      refine ⟨_, rfl, sp, _, _, _, rfl, rfl, hS3, rfl, _, rfl, _, rfl, sp, _, _, _, rfl, rfl, hS3, rfl, _, rfl, sp, _, _, _, rfl, rfl, hS3, rfl, (by show 4 ≤ sizeLine; decide), fun a ha => ?_⟩
      have kn : Kp [] H2 (upd H2 a (.tup [.int (s : Nat), .int (M : Nat), vo, vg])) := Kp.new ha
      refine ⟨m, w, a, st, N, l, s, M, o, g, M + 1, es, rfl, hM2.new ha, kn.dp FreeS.nil hw, ⟨vo, vg, SqT.of upd_same, hvo, hvg⟩, hN, hok.1, by omega, by omega, by omega, fun H4 k4 hM4 => ?_⟩
      have k24 : Kp [m] H2 H4 := kn.all.trans k4
      have hb4 := k24.dp hM2.frees hb3
      have hS4 := k24.sqT hM2.frees.t hS3
      refine ⟨_, rfl, _, rfl, _, rfl, ?_⟩
      refine sla_from 1 hb4 fun w2 H5 hw2 k5 => ?_
      have hS5 := k5.sqT FreeS.nil.t hS4
      refine ⟨_, rfl, _, rfl, sp, _, _, _, rfl, rfl, hS5, rfl, _, rfl, sp, _, _, _, rfl, rfl, hS5, rfl, _, rfl, sp, _, _, _, rfl, rfl, hS5, rfl, (by show 4 ≤ sizeLine; decide), fun a2 ha2 => ?_⟩
      have kn2 : Kp [] H5 (upd H5 a2 (.tup [.int (M : Nat), .int (e : Nat), vo, vg])) := Kp.new ha2
      refine ⟨m, w2, a2, .cons st2 rest2, N, l, M, e, o, g, _, _, rfl, (hM4.kp0 k5).new ha2, kn2.dp FreeS.nil hw2, ⟨vo, vg, SqT.of upd_same, hvo, hvg⟩, hN, hok.2, by omega, by omega, by rw [List.length_append]; omega, fun H6 k6 hM6 => ?_⟩
      refine q H6 (k1.trans (k2.trans (k24.trans (k5.all.trans (kn2.all.trans k6))))) ?_
      rw [standB]
      rw [← List.append_assoc]
      exact hM6
end
end Sv
end
section
set_option Elab.async false
set_option linter.all false
set_option autoImplicit false
set_option maxRecDepth 100000
/-! W8: the law's graph, statements; the graph. -/
namespace Sv
open PySem PySem.Spec PyProof.Rows L2
open C8 (pe_c pe_mt pe_mt0 pe_mk pe_gc)
section
variable {P : Program} {w : World} {K : PySem.W.Frag} {mg : Str → Option Value} {base : Heap}
set_option maxHeartbeats 1000000
theorem ss_step (T : Txt K mg) (n : Nat) (c__law_stand_block : C8.Cal P w K mg base (9 + n) "_law_stand_block" (spSB K n) []) : C8.Cal P w K mg base (9 + n + 1) "_law_stand_statement" (spSS K (n + 1)) [] := by
  have nd := sc_ss.nd
  have c__law_fresh := fresh_ok (P := P) (w := w) (base := base) T
  have c__law_stand_condition := sc_ok (P := P) (w := w) (base := base) T 6
  refine calD T.d__law_stand_statement sc_ss (fun vs H Q E h => ?_) (fun f cdv A outer s0 H vs Q E hr h => ?_)
  · obtain ⟨m, v, sp, b, N, l, s, e, o, g, M, es, rfl, _⟩ := h
    rfl
  obtain ⟨m, v, sp, st, N, l, s, e, o, g, M, es, rfl, hM, hb, ⟨vo, vg, hS, hvo, hvg⟩, hN, hok, hn, hd, hle, q⟩ := h
  have hu := hu_of hr
  refine ⟨_, (pss_cons (ps_asg (pv 2) (pg_tup rfl (pgs_cons (pg_name (i := 3) nd rfl (Or.inl rfl)) (pgs_cons (pg_name (i := 4) nd rfl (Or.inl rfl)) (pgs_cons (pg_name (i := 5) nd rfl (Or.inl rfl)) (pgs_cons (pg_name (i := 6) nd rfl (Or.inl rfl)) pgs_nil))))))
  (pss_one (ps_if (pt_cmpR op_eq (pe_ixc ix_tup (pv 1)) pe_str (nomark _)) (pss_cons (ps_asg (pe_c c__law_fresh hr (by omega) rfl (pa_cons (pv 0) pa_nil)) (pg_name (i := 7) nd rfl (Or.inl rfl)))
  (pss_cons (ps_asg (pe_c c__law_fresh hr (by omega) rfl (pa_cons (pv 0) pa_nil)) (pg_name (i := 8) nd rfl (Or.inl rfl)))
  (pss_cons (ps_expr (pe_c c__law_stand_condition hr (by omega) rfl (pa_cons (pv 0) (pa_cons (pe_ixc ix_tup (pv 1)) (pa_cons (pv 3) (pa_cons (pv 7) (pa_cons (pv 8) pa_nil)))))))
  (pss_cons (ps_expr (pe_c c__law_stand_block hr (by omega) rfl (pa_cons (pv 0) (pa_cons (pe_ixc ix_tup (pv 1)) (pa_cons (pe_tup (pa_cons (pv 7) (pa_cons (pv 4) (pa_cons (pv 5) (pa_cons (pv 6) pa_nil))))) pa_nil)))))
  (pss_one (ps_expr (pe_c c__law_stand_block hr (by omega) rfl (pa_cons (pv 0) (pa_cons (pe_ixc ix_tup (pv 1)) (pa_cons (pe_tup (pa_cons (pv 8) (pa_cons (pv 4) (pa_cons (pv 5) (pa_cons (pv 6) pa_nil))))) pa_nil)))))))))) (pss_one (ps_if (pt_cmpR op_eq (pe_ixc ix_tup (pv 1)) pe_str (nomark _)) (pss_cons (ps_asg (pe_c c__law_fresh hr (by omega) rfl (pa_cons (pv 0) pa_nil)) (pg_name (i := 7) nd rfl (Or.inl rfl)))
  (pss_cons (ps_expr (pe_c c__law_stand_condition hr (by omega) rfl (pa_cons (pv 0) (pa_cons (pe_ixc ix_tup (pv 1)) (pa_cons (pv 3) (pa_cons (pv 7) (pa_cons (pv 4) pa_nil)))))))
  (pss_one (ps_expr (pe_c c__law_stand_block hr (by omega) rfl (pa_cons (pv 0) (pa_cons (pe_ixc ix_tup (pv 1)) (pa_cons (pe_tup (pa_cons (pv 7) (pa_cons (pv 3) (pa_cons (pv 4) (pa_cons (pv 3) pa_nil))))) pa_nil)))))))) (pss_one (ps_if (pt_cmpR op_eq (pe_ixc ix_tup (pv 1)) pe_str (nomark _)) (pss_one (ps_expr (pe_c c__law_stand_block hr (by omega) rfl (pa_cons (pv 0) (pa_cons (pe_ixc ix_tup (pv 1)) (pa_cons (pe_tup (pa_cons (pv 3) (pa_cons (pv 3) (pa_cons (pv 4) (pa_cons (pv 3) pa_nil))))) pa_nil)))))) (pss_one (ps_if (pt_cmpR op_in_seq (pe_ixc ix_tup (pv 1)) (pe_lst (pa_cons pe_str (pa_cons pe_str pa_nil))) (by rfl)) (pss_one (ps_dput hu (pv 0) pe_str (pe_op op_cat (pe_dget hu (pv 0) pe_str (fun _ _ => rfl)) (pe_lst (pa_cons (pe_tup (pa_cons (pv 3) (pa_cons (pe_tup (pa_cons pe_str pa_nil)) (pa_cons (pe_ifExp (pt_cmpR op_eq (pe_ixc ix_tup (pv 1)) pe_str (nomark _)) (pv 5) (pv 6)) pa_nil)))) pa_nil))) rfl)) (pss_one (ps_dput hu (pv 0) pe_str (pe_op op_cat (pe_dget hu (pv 0) pe_str (fun _ _ => rfl)) (pe_lst (pa_cons (pe_tup (pa_cons (pv 3) (pa_cons (pv 1) (pa_cons (pe_ifExp (pt_cmpR op_eq (pe_ixc ix_tup (pv 1)) pe_str (nomark _)) pe_int (pv 4)) pa_nil)))) pa_nil))) rfl))))))))))), ?_⟩
  refine ⟨_, rfl, sp, _, rfl, hS, rfl, _, _, rfl, _, _, rfl, _, _, rfl, _, _, rfl, rfl, ?_⟩
  refine ⟨_, rfl, ?_⟩
  cases st with
  | ifs c b1 b2 =>
    rw [Stm.enc] at hb
    rw [Stm.ok] at hok
    rw [Stm.dp] at hn hd
    have cdp := c.dp_parts
    have es2 : (standS (.ifs c b1 b2) s e o g M) = ((standB b2 (M + 1) e o g (standB b1 M e o g (standC c s M (M + 1) (M + 2)).1).1).1, (standC c s M (M + 1) (M + 2)).2 ++ (standB b1 M e o g (standC c s M (M + 1) (M + 2)).1).2 ++ (standB b2 (M + 1) e o g (standB b1 M e o g (standC c s M (M + 1) (M + 2)).1).1).2) := by rw [standS]
    rw [es2] at hle q
    simp only [List.length_append] at hle
    refine ixd (i := 0) hb rfl fun w hw => ?_
    cases dp_str hw
    refine ⟨rfl, _, rfl, iteT ?_⟩
    refine ⟨_, rfl, m, M, es, rfl, hM, fun H1 k1 hM1 => ?_⟩
    have hb1 := k1.dp hM.frees hb
    refine ⟨_, rfl, m, M + 1, es, rfl, hM1, fun H2 k2 hM2 => ?_⟩
    have hb2 := k2.dp hM1.frees hb1
    refine ⟨_, rfl, _, rfl, ?_⟩
    refine ixd (i := 1) hb2 rfl fun w1 hw1 => ?_
    refine ⟨_, rfl, _, rfl, _, rfl, ?_⟩
    refine ⟨m, w1, c, s, M, M + 1, M + 2, es, rfl, hM2, hw1, by omega, by omega, fun H3 k3 hM3 => ?_⟩
    have hb3 := k3.dp hM2.frees hb2
    refine ⟨_, rfl, _, rfl, ?_⟩
    refine ixd (i := 2) hb3 rfl fun w2 hw2 => ?_
    refine ⟨_, rfl, _, rfl, _, rfl, _, rfl, (by show 4 ≤ sizeLine; decide), fun a ha => ?_⟩
    have kn : Kp [] H3 (upd H3 a (.tup [.int (M : Nat), .int (e : Nat), vo, vg])) := Kp.new ha
    refine ⟨m, w2, a, b1, N, l, M, e, o, g, _, _, rfl, hM3.new ha, kn.dp FreeS.nil hw2, ⟨vo, vg, SqT.of upd_same, hvo, hvg⟩, hN, hok.2.2.1, by omega, by omega, by rw [List.length_append]; omega, fun H4 k4 hM4 => ?_⟩
    have k34 : Kp [m] H3 H4 := kn.all.trans k4
    have hb4 := k34.dp hM3.frees hb3
    refine ⟨_, rfl, _, rfl, ?_⟩
    refine ixd (i := 3) hb4 rfl fun w3 hw3 => ?_
    refine ⟨_, rfl, _, rfl, _, rfl, _, rfl, (by show 4 ≤ sizeLine; decide), fun a2 ha2 => ?_⟩
    have kn2 : Kp [] H4 (upd H4 a2 (.tup [.int ((M + 1 : Nat)), .int (e : Nat), vo, vg])) := Kp.new ha2
    refine ⟨m, w3, a2, b2, N, l, M + 1, e, o, g, _, _, rfl, hM4.new ha2, kn2.dp FreeS.nil hw3, ⟨vo, vg, SqT.of upd_same, hvo, hvg⟩, hN, hok.2.2.2, by omega, by omega, by rw [List.length_append, List.length_append]; omega, fun H5 k5 hM5 => ?_⟩
    refine q H5 (k1.trans (k2.trans (k3.trans (k34.trans (kn2.all.trans k5))))) ?_
    simp only [← List.append_assoc]
    exact hM5
  | «while» c b1 =>
    rw [Stm.enc] at hb
    rw [Stm.ok] at hok
    rw [Stm.dp] at hn hd
    have cdp := c.dp_parts
    have es2 : (standS (.while c b1) s e o g M) = ((standB b1 M s e s (standC c s M e (M + 1)).1).1, (standC c s M e (M + 1)).2 ++ (standB b1 M s e s (standC c s M e (M + 1)).1).2) := by rw [standS]
    rw [es2] at hle q
    simp only [List.length_append] at hle
    refine ixd (i := 0) hb rfl fun w hw => ?_
    cases dp_str hw
    refine ⟨rfl, _, rfl, iteF ?_⟩
    refine ⟨_, rfl, ?_⟩
    refine ixd (i := 0) hb rfl fun w hw => ?_
    cases dp_str hw
    refine ⟨rfl, _, rfl, iteT ?_⟩
    refine ⟨_, rfl, m, M, es, rfl, hM, fun H1 k1 hM1 => ?_⟩
    have hb1 := k1.dp hM.frees hb
    refine ⟨_, rfl, _, rfl, ?_⟩
    refine ixd (i := 1) hb1 rfl fun w1 hw1 => ?_
    refine ⟨_, rfl, _, rfl, _, rfl, ?_⟩
    refine ⟨m, w1, c, s, M, e, M + 1, es, rfl, hM1, hw1, by omega, by omega, fun H3 k3 hM3 => ?_⟩
    have hb3 := k3.dp hM1.frees hb1
    refine ⟨_, rfl, _, rfl, ?_⟩
    refine ixd (i := 2) hb3 rfl fun w2 hw2 => ?_
    refine ⟨_, rfl, _, rfl, _, rfl, _, rfl, (by show 4 ≤ sizeLine; decide), fun a ha => ?_⟩
    have kn : Kp [] H3 (upd H3 a (.tup [.int (M : Nat), .int (s : Nat), .int (e : Nat), .int (s : Nat)])) := Kp.new ha
    refine ⟨m, w2, a, b1, N, true, M, s, e, s, _, _, rfl, hM3.new ha, kn.dp FreeS.nil hw2, ⟨_, _, SqT.of upd_same, .inl rfl, .inl rfl⟩, hN, hok.2.2, by omega, by omega, by rw [List.length_append]; omega, fun H4 k4 hM4 => ?_⟩
    refine q H4 (k1.trans (k3.trans (kn.all.trans k4))) ?_
    simp only [← List.append_assoc]
    exact hM4
  | loop b1 =>
    rw [Stm.enc] at hb
    rw [Stm.ok] at hok
    rw [Stm.dp] at hn hd
    have es2 : (standS (.loop b1) s e o g M) = standB b1 s s e s M := by rw [standS]
    rw [es2] at hle q
    refine ixd (i := 0) hb rfl fun w hw => ?_
    cases dp_str hw
    refine ⟨rfl, _, rfl, iteF ?_⟩
    refine ⟨_, rfl, ?_⟩
    refine ixd (i := 0) hb rfl fun w hw => ?_
    cases dp_str hw
    refine ⟨rfl, _, rfl, iteF ?_⟩
    refine ⟨_, rfl, ?_⟩
    refine ixd (i := 0) hb rfl fun w hw => ?_
    cases dp_str hw
    refine ⟨rfl, _, rfl, iteT ?_⟩
    refine ⟨_, rfl, _, rfl, ?_⟩
    refine ixd (i := 1) hb rfl fun w2 hw2 => ?_
    refine ⟨_, rfl, _, rfl, _, rfl, _, rfl, (by show 4 ≤ sizeLine; decide), fun a ha => ?_⟩
    have kn : Kp [] H (upd H a (.tup [.int (s : Nat), .int (s : Nat), .int (e : Nat), .int (s : Nat)])) := Kp.new ha
    exact ⟨m, w2, a, b1, N, true, s, s, e, s, M, es, rfl, hM.new ha, kn.dp FreeS.nil hw2, ⟨_, _, SqT.of upd_same, .inl rfl, .inl rfl⟩, hN, hok, by omega, by omega, hle, fun H4 k4 hM4 => q H4 (kn.all.trans k4) hM4⟩
  | brk =>
    rw [Stm.enc] at hb
    rw [Stm.ok] at hok
    rcases hvo with rfl | ⟨z, _⟩
    case inr => rw [hok] at z; cases z
    have es2 : (standS .brk s e o g M) = (M, [⟨s, .skip, o⟩]) := by rw [standS]
    rw [es2] at hle q
    refine ixd (i := 0) hb rfl fun w hw => ?_
    cases dp_str hw
    refine ⟨rfl, _, rfl, iteF ?_⟩
    refine ⟨_, rfl, ?_⟩
    refine ixd (i := 0) hb rfl fun w hw => ?_
    cases dp_str hw
    refine ⟨rfl, _, rfl, iteF ?_⟩
    refine ⟨_, rfl, ?_⟩
    refine ixd (i := 0) hb rfl fun w hw => ?_
    cases dp_str hw
    refine ⟨rfl, _, rfl, iteF ?_⟩
    refine ⟨_, rfl, ?_⟩
    refine ixd (i := 0) hb rfl fun w hw => ?_
    cases dp_str hw
    refine ⟨(by show 2 ≤ sizeLine; decide), fun t ht => ?_⟩
    refine ⟨t, _, rfl, .inl (SqL.of upd_same), rfl, rfl, _, rfl, iteT ?_⟩
    have hb1 := (Kp.new (M := []) (o := .lst [V.str "break", .str "next"]) ht).dp FreeS.nil hb
    have hM1 := hM.new (o := .lst [V.str "break", .str "next"]) ht
    have k1 : Kp [m] H (upd H t (.lst [V.str "break", .str "next"])) := Kp.new ht
    generalize upd H t (.lst [V.str "break", .str "next"]) = H1 at *
    obtain ⟨li, xs, hm⟩ := hM1.ex
    refine ⟨_, rfl, m, _, rfl, DGet.k (k := Sum.inr "edges") hm.hm, ?_⟩
    refine ⟨_, rfl, (by show 1 ≤ sizeLine; decide), fun a ha => ?_⟩
    refine ⟨_, rfl, ?_⟩
    refine ixd (i := 0) ((Kp.new (M := []) ha).dp FreeS.nil hb1) rfl fun w hw => ?_
    cases dp_str hw
    refine ⟨rfl, _, rfl, iteT ?_⟩
    refine ⟨_, rfl, (by show 3 ≤ sizeLine; decide), fun c hc => ?_⟩
    have d1 : Dp K (upd H1 a (.tup [.str "skip"])) (.ref a) Deed.skip.enc := dp_new upd_same (.cons (.str _) .nil)
    have d2 : Dp K (upd (upd H1 a (.tup [.str "skip"])) c (.tup [.int (s : Nat), .ref a, .int (o : Nat)])) (.ref c) (Edge.enc ⟨s, .skip, o⟩) := edge_dp upd_same ((Kp.new (M := []) hc).dp FreeS.nil d1)
    obtain ⟨z0, z⟩ := add_edge (Q := fun H' => Q .non H') hm ((Kp.new (M := []) ha).trans (Kp.new hc)) d2 hle fun H' k h => q H' (k1.trans k) h
    refine ⟨z0, fun c1 hc1 => ?_⟩
    obtain ⟨a', b', ys, zs, z1, z2, z3, z4, z5, z6⟩ := z c1 hc1
    refine ⟨a', b', ys, zs, z1, z2, z3, z4, z5, fun p hp => ?_⟩
    exact ⟨_, rfl, m, _, rfl, (z6 p hp).1, (z6 p hp).2⟩
  | nxt =>
    rw [Stm.enc] at hb
    rw [Stm.ok] at hok
    rcases hvg with rfl | ⟨z, _⟩
    case inr => rw [hok] at z; cases z
    have es2 : (standS .nxt s e o g M) = (M, [⟨s, .skip, g⟩]) := by rw [standS]
    rw [es2] at hle q
    refine ixd (i := 0) hb rfl fun w hw => ?_
    cases dp_str hw
    refine ⟨rfl, _, rfl, iteF ?_⟩
    refine ⟨_, rfl, ?_⟩
    refine ixd (i := 0) hb rfl fun w hw => ?_
    cases dp_str hw
    refine ⟨rfl, _, rfl, iteF ?_⟩
    refine ⟨_, rfl, ?_⟩
    refine ixd (i := 0) hb rfl fun w hw => ?_
    cases dp_str hw
    refine ⟨rfl, _, rfl, iteF ?_⟩
    refine ⟨_, rfl, ?_⟩
    refine ixd (i := 0) hb rfl fun w hw => ?_
    cases dp_str hw
    refine ⟨(by show 2 ≤ sizeLine; decide), fun t ht => ?_⟩
    refine ⟨t, _, rfl, .inl (SqL.of upd_same), rfl, rfl, _, rfl, iteT ?_⟩
    have hb1 := (Kp.new (M := []) (o := .lst [V.str "break", .str "next"]) ht).dp FreeS.nil hb
    have hM1 := hM.new (o := .lst [V.str "break", .str "next"]) ht
    have k1 : Kp [m] H (upd H t (.lst [V.str "break", .str "next"])) := Kp.new ht
    generalize upd H t (.lst [V.str "break", .str "next"]) = H1 at *
    obtain ⟨li, xs, hm⟩ := hM1.ex
    refine ⟨_, rfl, m, _, rfl, DGet.k (k := Sum.inr "edges") hm.hm, ?_⟩
    refine ⟨_, rfl, (by show 1 ≤ sizeLine; decide), fun a ha => ?_⟩
    refine ⟨_, rfl, ?_⟩
    refine ixd (i := 0) ((Kp.new (M := []) ha).dp FreeS.nil hb1) rfl fun w hw => ?_
    cases dp_str hw
    refine ⟨rfl, _, rfl, iteF ?_⟩
    refine ⟨_, rfl, (by show 3 ≤ sizeLine; decide), fun c hc => ?_⟩
    have d1 : Dp K (upd H1 a (.tup [.str "skip"])) (.ref a) Deed.skip.enc := dp_new upd_same (.cons (.str _) .nil)
    have d2 : Dp K (upd (upd H1 a (.tup [.str "skip"])) c (.tup [.int (s : Nat), .ref a, .int (g : Nat)])) (.ref c) (Edge.enc ⟨s, .skip, g⟩) := edge_dp upd_same ((Kp.new (M := []) hc).dp FreeS.nil d1)
    obtain ⟨z0, z⟩ := add_edge (Q := fun H' => Q .non H') hm ((Kp.new (M := []) ha).trans (Kp.new hc)) d2 hle fun H' k h => q H' (k1.trans k) h
    refine ⟨z0, fun c1 hc1 => ?_⟩
    obtain ⟨a', b', ys, zs, z1, z2, z3, z4, z5, z6⟩ := z c1 hc1
    refine ⟨a', b', ys, zs, z1, z2, z3, z4, z5, fun p hp => ?_⟩
    exact ⟨_, rfl, m, _, rfl, (z6 p hp).1, (z6 p hp).2⟩
  | set x u =>
    have es2 : (standS (.set x u) s e o g M) = (M, [⟨s, .set x u, e⟩]) := by rw [standS]
    rw [es2] at hle q
    have hb0 : Dp K H v (.set x u : Deed).enc := by
      rw [Stm.enc] at hb
      exact hb
    rw [Stm.enc] at hb
    refine ixd (i := 0) hb rfl fun w hw => ?_
    cases dp_str hw
    refine ⟨rfl, _, rfl, iteF ?_⟩
    refine ⟨_, rfl, ?_⟩
    refine ixd (i := 0) hb rfl fun w hw => ?_
    cases dp_str hw
    refine ⟨rfl, _, rfl, iteF ?_⟩
    refine ⟨_, rfl, ?_⟩
    refine ixd (i := 0) hb rfl fun w hw => ?_
    cases dp_str hw
    refine ⟨rfl, _, rfl, iteF ?_⟩
    refine ⟨_, rfl, ?_⟩
    refine ixd (i := 0) hb rfl fun w hw => ?_
    cases dp_str hw
    refine ⟨(by show 2 ≤ sizeLine; decide), fun t ht => ?_⟩
    refine ⟨t, _, rfl, .inl (SqL.of upd_same), rfl, rfl, _, rfl, iteF ?_⟩
    have hb1 := (Kp.new (M := []) (o := .lst [V.str "break", .str "next"]) ht).dp FreeS.nil hb
    have hb2 := (Kp.new (M := []) (o := .lst [V.str "break", .str "next"]) ht).dp FreeS.nil hb0
    have hM1 := hM.new (o := .lst [V.str "break", .str "next"]) ht
    have k1 : Kp [m] H (upd H t (.lst [V.str "break", .str "next"])) := Kp.new ht
    generalize upd H t (.lst [V.str "break", .str "next"]) = H1 at *
    obtain ⟨li, xs, hm⟩ := hM1.ex
    refine ⟨_, rfl, m, _, rfl, DGet.k (k := Sum.inr "edges") hm.hm, ?_⟩
    refine ⟨_, rfl, _, rfl, _, rfl, ?_⟩
    refine ixd (i := 0) hb1 rfl fun w hw => ?_
    cases dp_str hw
    refine ⟨rfl, _, rfl, iteF ?_⟩
    refine ⟨_, rfl, (by show 3 ≤ sizeLine; decide), fun c hc => ?_⟩
    have d2 : Dp K (upd H1 c (.tup [.int (s : Nat), v, .int (e : Nat)])) (.ref c) (Edge.enc ⟨s, .set x u, e⟩) := edge_dp upd_same ((Kp.new (M := []) hc).dp FreeS.nil hb2)
    obtain ⟨z0, z⟩ := add_edge (Q := fun H' => Q .non H') hm (Kp.new (M := []) hc) d2 hle fun H' k h => q H' (k1.trans k) h
    refine ⟨z0, fun c1 hc1 => ?_⟩
    obtain ⟨a', b', ys, zs, z1, z2, z3, z4, z5, z6⟩ := z c1 hc1
    refine ⟨a', b', ys, zs, z1, z2, z3, z4, z5, fun p hp => ?_⟩
    exact ⟨_, rfl, m, _, rfl, (z6 p hp).1, (z6 p hp).2⟩
  | give u =>
    have es2 : (standS (.give u) s e o g M) = (M, [⟨s, .give u, 1⟩]) := by rw [standS]
    rw [es2] at hle q
    have hb0 : Dp K H v (.give u : Deed).enc := by
      rw [Stm.enc] at hb
      exact hb
    rw [Stm.enc] at hb
    refine ixd (i := 0) hb rfl fun w hw => ?_
    cases dp_str hw
    refine ⟨rfl, _, rfl, iteF ?_⟩
    refine ⟨_, rfl, ?_⟩
    refine ixd (i := 0) hb rfl fun w hw => ?_
    cases dp_str hw
    refine ⟨rfl, _, rfl, iteF ?_⟩
    refine ⟨_, rfl, ?_⟩
    refine ixd (i := 0) hb rfl fun w hw => ?_
    cases dp_str hw
    refine ⟨rfl, _, rfl, iteF ?_⟩
    refine ⟨_, rfl, ?_⟩
    refine ixd (i := 0) hb rfl fun w hw => ?_
    cases dp_str hw
    refine ⟨(by show 2 ≤ sizeLine; decide), fun t ht => ?_⟩
    refine ⟨t, _, rfl, .inl (SqL.of upd_same), rfl, rfl, _, rfl, iteF ?_⟩
    have hb1 := (Kp.new (M := []) (o := .lst [V.str "break", .str "next"]) ht).dp FreeS.nil hb
    have hb2 := (Kp.new (M := []) (o := .lst [V.str "break", .str "next"]) ht).dp FreeS.nil hb0
    have hM1 := hM.new (o := .lst [V.str "break", .str "next"]) ht
    have k1 : Kp [m] H (upd H t (.lst [V.str "break", .str "next"])) := Kp.new ht
    generalize upd H t (.lst [V.str "break", .str "next"]) = H1 at *
    obtain ⟨li, xs, hm⟩ := hM1.ex
    refine ⟨_, rfl, m, _, rfl, DGet.k (k := Sum.inr "edges") hm.hm, ?_⟩
    refine ⟨_, rfl, _, rfl, _, rfl, ?_⟩
    refine ixd (i := 0) hb1 rfl fun w hw => ?_
    cases dp_str hw
    refine ⟨rfl, _, rfl, iteT ?_⟩
    refine ⟨(by show 3 ≤ sizeLine; decide), fun c hc => ?_⟩
    have d2 : Dp K (upd H1 c (.tup [.int (s : Nat), v, .int (1 : Nat)])) (.ref c) (Edge.enc ⟨s, .give u, 1⟩) := edge_dp upd_same ((Kp.new (M := []) hc).dp FreeS.nil hb2)
    obtain ⟨z0, z⟩ := add_edge (Q := fun H' => Q .non H') hm (Kp.new (M := []) hc) d2 hle fun H' k h => q H' (k1.trans k) h
    refine ⟨z0, fun c1 hc1 => ?_⟩
    obtain ⟨a', b', ys, zs, z1, z2, z3, z4, z5, z6⟩ := z c1 hc1
    refine ⟨a', b', ys, zs, z1, z2, z3, z4, z5, fun p hp => ?_⟩
    exact ⟨_, rfl, m, _, rfl, (z6 p hp).1, (z6 p hp).2⟩
  | skip =>
    have es2 : (standS (.skip) s e o g M) = (M, [⟨s, .skip, e⟩]) := by rw [standS]
    rw [es2] at hle q
    have hb0 : Dp K H v (.skip : Deed).enc := by
      rw [Stm.enc] at hb
      exact hb
    rw [Stm.enc] at hb
    refine ixd (i := 0) hb rfl fun w hw => ?_
    cases dp_str hw
    refine ⟨rfl, _, rfl, iteF ?_⟩
    refine ⟨_, rfl, ?_⟩
    refine ixd (i := 0) hb rfl fun w hw => ?_
    cases dp_str hw
    refine ⟨rfl, _, rfl, iteF ?_⟩
    refine ⟨_, rfl, ?_⟩
    refine ixd (i := 0) hb rfl fun w hw => ?_
    cases dp_str hw
    refine ⟨rfl, _, rfl, iteF ?_⟩
    refine ⟨_, rfl, ?_⟩
    refine ixd (i := 0) hb rfl fun w hw => ?_
    cases dp_str hw
    refine ⟨(by show 2 ≤ sizeLine; decide), fun t ht => ?_⟩
    refine ⟨t, _, rfl, .inl (SqL.of upd_same), rfl, rfl, _, rfl, iteF ?_⟩
    have hb1 := (Kp.new (M := []) (o := .lst [V.str "break", .str "next"]) ht).dp FreeS.nil hb
    have hb2 := (Kp.new (M := []) (o := .lst [V.str "break", .str "next"]) ht).dp FreeS.nil hb0
    have hM1 := hM.new (o := .lst [V.str "break", .str "next"]) ht
    have k1 : Kp [m] H (upd H t (.lst [V.str "break", .str "next"])) := Kp.new ht
    generalize upd H t (.lst [V.str "break", .str "next"]) = H1 at *
    obtain ⟨li, xs, hm⟩ := hM1.ex
    refine ⟨_, rfl, m, _, rfl, DGet.k (k := Sum.inr "edges") hm.hm, ?_⟩
    refine ⟨_, rfl, _, rfl, _, rfl, ?_⟩
    refine ixd (i := 0) hb1 rfl fun w hw => ?_
    cases dp_str hw
    refine ⟨rfl, _, rfl, iteF ?_⟩
    refine ⟨_, rfl, (by show 3 ≤ sizeLine; decide), fun c hc => ?_⟩
    have d2 : Dp K (upd H1 c (.tup [.int (s : Nat), v, .int (e : Nat)])) (.ref c) (Edge.enc ⟨s, .skip, e⟩) := edge_dp upd_same ((Kp.new (M := []) hc).dp FreeS.nil hb2)
    obtain ⟨z0, z⟩ := add_edge (Q := fun H' => Q .non H') hm (Kp.new (M := []) hc) d2 hle fun H' k h => q H' (k1.trans k) h
    refine ⟨z0, fun c1 hc1 => ?_⟩
    obtain ⟨a', b', ys, zs, z1, z2, z3, z4, z5, z6⟩ := z c1 hc1
    refine ⟨a', b', ys, zs, z1, z2, z3, z4, z5, fun p hp => ?_⟩
    exact ⟨_, rfl, m, _, rfl, (z6 p hp).1, (z6 p hp).2⟩
end
end Sv
end
section
set_option Elab.async false
set_option linter.all false
set_option autoImplicit false
set_option maxRecDepth 100000
/-! W9: the law's graph of a program; the law's values and tests. -/
namespace Sv
open PySem PySem.Spec PyProof.Rows L2
open C8 (pe_c pe_mt pe_mt0 pe_mk pe_gc)
theorem Nm.okN {N : List Str} (h : Nm N) : OkN N := fun x hx => List.all_eq_true.mp (h.all (p := fun N => N.all fun x => PyData.canLay0 (.str x)) (by decide +kernel)) x hx
def spGraph (K : PySem.W.Frag) : Sp := fun vs H Q _ => ∃ (v : V) (N : List Str) (k : Nat) (b : Blk), vs = [v] ∧ PrOk N k b ∧ Dp K H v (prEnc N k b) ∧ ∀ (m : Addr) H', Kp [] H H' → H m = none → MadeAt K H' m (graphOf b).1 (graphOf b).2 → Q (.ref m) H'
theorem sc_graph : FnScope ["_law_program", "_law_made"] ["_law_program"] (C8.fnScope (topS 77)) := C8.fnScope_by (by decide +kernel)
theorem Kp.unput {p : Addr} {H H' : Hp} {o : HO} (h : Kp [p] (upd H p o) H') (e : H p = none) : Kp [] H H' := fun a u _ q => by
  have n : a ≠ p := ne_of_none q e
  exact h a u (by simpa using n) (by rw [upd_ne n]; exact q)
section
variable {P : Program} {w : World} {K : PySem.W.Frag} {mg : Str → Option Value} {base : Heap}
set_option maxHeartbeats 1000000
theorem stand_ok (T : Txt K mg) : ∀ n, C8.Cal P w K mg base (9 + n) "_law_stand_statement" (spSS K n) [] ∧ C8.Cal P w K mg base (9 + n) "_law_stand_block" (spSB K n) []
  | 0 => ⟨calVac T.d__law_stand_statement fun vs H Q E h => by
      obtain ⟨m, v, sp, st, N, l, s, e, o, g, M, es, _, _, _, _, _, _, hd, _⟩ := h
      exact absurd hd (Nat.not_lt_zero _), calVac T.d__law_stand_block fun vs H Q E h => by
      obtain ⟨m, v, sp, st, N, l, s, e, o, g, M, es, _, _, _, _, _, _, hd, _⟩ := h
      exact absurd hd (Nat.not_lt_zero _)⟩
  | n + 1 => ⟨ss_step T n (stand_ok T n).2, sb_step T n (stand_ok T n).1 (stand_ok T n).2⟩
theorem graph_ok (T : Txt K mg) : C8.Cal P w K mg base 28 "_law_graph" (spGraph K) [] := by
  have nd := sc_graph.nd
  have c__law_stand_block := (stand_ok (P := P) (w := w) (base := base) T 18).2
  refine calD T.d__law_graph sc_graph (fun vs H Q E h => ?_) (fun f cdv A outer s0 H vs Q E hr h => ?_)
  · obtain ⟨v, N, k, b, rfl, _⟩ := h
    rfl
  obtain ⟨v, N, k, b, rfl, hP, hd, q⟩ := h
  have hu := hu_of hr
  refine ⟨_, (pss_cons (ps_asg (pe_disp (pps_cons pe_str pe_int (pps_cons pe_str (pe_lst pa_nil) pps_nil)) rfl rfl (List.cons_ne_nil _ _) (by decide)) (pg_name (i := 1) nd rfl (Or.inl rfl)))
  (pss_cons (ps_expr (pe_c c__law_stand_block hr (by omega) rfl (pa_cons (pv 1) (pa_cons (pe_ixc ix_tup (pv 0)) (pa_cons (pe_tup (pa_cons pe_int (pa_cons pe_int (pa_cons pe_non (pa_cons pe_non pa_nil))))) pa_nil)))))
  (pss_cons (ps_dput hu (pv 1) pe_str (pe_op op_cat (pe_dget hu (pv 1) pe_str (fun _ _ => rfl)) (pe_lst (pa_cons (pe_tup (pa_cons pe_int (pa_cons (pe_tup (pa_cons pe_str (pa_cons pe_int pa_nil))) (pa_cons pe_int pa_nil)))) pa_nil))) rfl)
  (pss_one (ps_ret (pv 1)))))), ?_⟩
  refine fun m hm => ⟨(by show 0 ≤ sizeLine; decide), fun l hl => ?_⟩
  have hm0 : (upd (upd H m (.dK [])) l (.lst [])) m = some (.dK []) := by rw [upd_ne (ne_of_none upd_same hl)]; exact upd_same
  refine ⟨hm0, madeK 3 l, rfl, by show 2 ≤ 15; decide, ?_⟩
  have ml : m ≠ l := ne_of_none (upd_same (H := H) (o := .dK [])) hl
  have hM1 : MadeAt K (upd (upd (upd H m (.dK [])) l (.lst [])) m (.dK (mergeK [] (madeK 3 l)))) m 3 [] := ⟨l, [], upd_same, by rw [upd_ne ml.symm]; exact upd_same, .nil⟩
  have k1 : Kp [m] H (upd (upd (upd H m (.dK [])) l (.lst [])) m (.dK (mergeK [] (madeK 3 l)))) := ((Kp.new hm).trans (Kp.new hl)).trans (Kp.put (by simp))
  have fm : FreeS [m] H := fun b hb => by rw [List.mem_singleton] at hb; rw [hb, hm]; rfl
  have hd1 := k1.dp fm hd
  generalize upd (upd (upd H m (.dK [])) l (.lst [])) m (.dK (mergeK [] (madeK 3 l))) = H1 at *
  refine ⟨_, rfl, _, rfl, ?_⟩
  have hlen := graph_len hP.ok
  have hsz := hP.size
  have hbd := hP.dp
  have gl : (graphOf b).2.length = (standB b 0 2 0 0 3).2.length + 1 := by show ((standB b 0 2 0 0 3).2 ++ [_]).length = _; rw [List.length_append]; rfl
  refine ixd (i := 1) hd1 rfl fun w1 hw1 => ?_
  refine ⟨(by show 4 ≤ sizeLine; decide), fun sp hsp => ?_⟩
  refine ⟨m, w1, sp, b, N, false, 0, 2, 0, 0, 3, [], rfl, hM1.new hsp, (Kp.new (M := []) hsp).dp FreeS.nil hw1, ⟨.non, .non, SqT.of upd_same, .inr ⟨rfl, rfl⟩, .inr ⟨rfl, rfl⟩⟩, hP.nm.okN, hP.ok, by omega, by omega, by show 0 + _ ≤ _; omega, fun H3 k3 hM3 => ?_⟩
  have k13 : Kp [m] H H3 := k1.trans ((Kp.new hsp).trans k3)
  rw [List.nil_append] at hM3
  obtain ⟨l3, xs, hm3⟩ := hM3.ex
  refine ⟨_, rfl, m, _, rfl, DGet.k (k := Sum.inr "edges") hm3.hm, ?_⟩
  refine ⟨(by show 2 ≤ sizeLine; decide), fun a ha => ⟨(by show 3 ≤ sizeLine; decide), fun c hc => ?_⟩⟩
  have d1 : Dp K (upd H3 a (.tup [.str "give", .int 0])) (.ref a) (Deed.give (.num 0)).enc := dp_new upd_same (.cons (.str _) (.cons (.int _) .nil))
  have d2 : Dp K (upd (upd H3 a (.tup [.str "give", .int 0])) c (.tup [.int (2 : Nat), .ref a, .int (1 : Nat)])) (.ref c) (Edge.enc ⟨2, .give (.num 0), 1⟩) := edge_dp upd_same ((Kp.new (M := []) hc).dp FreeS.nil d1)
  obtain ⟨z0, z⟩ := add_edge (Q := fun H' => Q (.ref m) H') hm3 ((Kp.new (M := []) ha).trans (Kp.new hc)) d2 (by omega) fun H' kk h => q m H' (fun x u hx e => (k13.trans kk) x u (by simpa using ne_of_none e hm) e) hm h
  refine ⟨z0, fun c1 hc1 => ?_⟩
  obtain ⟨a', b', ys, zs, z1, z2, z3, z4, z5, z6⟩ := z c1 hc1
  refine ⟨a', b', ys, zs, z1, z2, z3, z4, z5, fun p hp => ?_⟩
  exact ⟨_, rfl, m, _, rfl, (z6 p hp).1, _, rfl, (z6 p hp).2⟩
end

/-! ### values -/
def kvs (e : En) : List (Key × V) := e.map fun p => (Sum.inr p.1, .int p.2)
theorem kvs_get (x : Str) : ∀ e : En, valV (kvs e) (Sum.inr x) = (En.get? e x).map V.int
  | [] => rfl
  | (y, i) :: r => by
    have ih := kvs_get x r
    unfold En.get? at ih ⊢
    by_cases c : y = x
    · have e1 : valV (kvs ((y, i) :: r)) (Sum.inr x) = some (.int i) := valV_pos (p := ((Sum.inr y : Key), V.int i)) (congrArg Sum.inr c)
      rw [e1, List.find?_cons, decide_eq_true c]
      rfl
    · have e1 : valV (kvs ((y, i) :: r)) (Sum.inr x) = valV (kvs r) (Sum.inr x) := valV_neg (p := ((Sum.inr y : Key), V.int i)) (fun z => c (Sum.inr.inj z))
      rw [e1, List.find?_cons, decide_eq_false c, ih]
theorem kvs_put (e : En) (x : Str) (i : Int) : putK (kvs e) (Sum.inr x) (.int i) = kvs (En.put e x i) := by
  unfold putK En.put kvs
  have h : ((e.map fun p => ((Sum.inr p.1 : Key), V.int p.2)).any fun kv => decide (kv.1 = Sum.inr x)) = e.any fun kv => decide (kv.1 = x) := by
    rw [List.any_map]
    exact List.any_congr rfl fun p => decide_eq_decide.mpr ⟨fun z => Sum.inr.inj z, fun z => congrArg Sum.inr z⟩
  rw [h]
  split
  · rw [List.map_map, List.map_map]
    refine List.map_congr_left fun p _ => ?_
    simp only [Function.comp]
    by_cases c : p.1 = x
    · rw [if_pos (congrArg Sum.inr c), if_pos c]
    · rw [if_neg (fun z => c (Sum.inr.inj z)), if_neg c]
  · rw [List.map_append]
    rfl
theorem put_len (e : En) (x : Str) (i : Int) : (En.put e x i).length ≤ e.length + 1 := by
  unfold En.put
  split
  · rw [List.length_map]; omega
  · rw [List.length_append]; simp
abbrev NowAt (H : Hp) (d : Addr) (e : En) : Prop := H d = some (.dK (kvs e))
theorem kvs_getD (e : En) (x : Str) : (valV (kvs e) (Sum.inr x)).getD (.int 0) = .int (En.get e x) := by
  rw [kvs_get]
  unfold En.get
  cases En.get? e x <;> rfl
def Val.opds : Val → List Opd
  | .as a => [a]
  | .bin _ a b => [a, b]
def Val.word : Val → Str
  | .as _ => "as"
  | .bin o _ _ => o.word
theorem Val.enc_eq : ∀ v : Val, v.enc = .tuple (.str v.word :: v.opds.map Opd.enc)
  | .as a => rfl
  | .bin o a b => rfl
theorem opd_v {K : PySem.W.Frag} {H : Hp} {v : V} : ∀ {o : Opd}, Dp K H v o.enc → v = o.v
  | .nm x, h => dp_str h
  | .num i, h => dp_int h
def spValL (K : PySem.W.Frag) : Sp := fun vs H Q _ => ∃ (v : V) (d : Addr) (o : Val) (N : List Str) (e : En), vs = [v, .ref d] ∧ Dp K H v o.enc ∧ o.ok N ∧ NowAt H d e ∧ ∀ H', Kp [] H H' → Q (.int (o.eval e)) H'
def spPairL (K : PySem.W.Frag) : Sp := fun vs H Q _ => ∃ (v : V) (d : Addr) (o : Pair) (e : En), vs = [v, .ref d] ∧ Dp K H v o.enc ∧ NowAt H d e ∧ ∀ H', Kp [] H H' → Q (.bl (o.holds e)) H'
theorem sc_vall : FnScope ["_law_value", "_law_now", "_law_read", "_law_operand"] ["_law_value", "_law_now"] (C8.fnScope (topS 78)) := C8.fnScope_by (by decide +kernel)
theorem sc_pairl : FnScope ["_law_pair", "_law_now", "_law_read", "_law_operand"] ["_law_pair", "_law_now"] (C8.fnScope (topS 79)) := C8.fnScope_by (by decide +kernel)
section
variable {P : Program} {w : World} {K : PySem.W.Frag} {mg : Str → Option Value} {base : Heap}
set_option maxHeartbeats 1000000
theorem vall_ok (T : Txt K mg) : C8.Cal P w K mg base 1 "_law_value_of" (spValL K) [] := by
  have nd := sc_vall.nd
  refine calD T.d__law_value_of sc_vall (fun vs H Q E h => ?_) (fun f cdv A outer s0 H vs Q E hr h => ?_)
  · obtain ⟨v, d, o, N, e, rfl, _⟩ := h
    rfl
  obtain ⟨v, d, o, N, e, rfl, hv, hok, hd, q⟩ := h
  have hu := hu_of hr
  refine ⟨_, (pss_cons (ps_setLc (i := 2) (own := [("_law_operand", 3)]) rfl nd rfl rfl (sw_true rfl rfl rfl (by decide +kernel)) (pi_tup (pe_slF_tup (pv 0) pe_int)) (blkOk_by (N := ["_law_value", "_law_now", "_law_read", "_law_operand"]) (sc := C8.fnScope (topS 78)) (by decide +kernel)) (fun _ _ _ _ _ => (pg_name (i := 3) nd rfl (Or.inl rfl))) (fun _ _ _ _ _ => pts_nil) (fun _ _ _ _ _ => (pe_ifExp (pt_val (pe_callB (id := "isinstance") (r := rIsi K) call_isi (by rfl) T.z_isinstance (by decide +kernel) (pa_cons (pv 3) (pa_cons (pe_bltn (v := .ty "str") rfl T.z_str (by decide +kernel) rfl) pa_nil)))) (pe_dget2 hu (pv 1) (pv 3) pe_int ⟨rfl, rfl, rfl, rfl⟩) (pv 3))))
  (pss_cons (ps_if (pt_cmpR op_eq (pe_ixc ix_tup (pv 0)) pe_str (nomark _)) (pss_one (ps_ret (pe_ixc ix_list (pv 2)))) pss_nil)
  (pss_cons (ps_if (pt_cmpR op_eq (pe_ixc ix_tup (pv 0)) pe_str (nomark _)) (pss_one (ps_ret (pe_op op_add (pe_ixc ix_list (pv 2)) (pe_ixc ix_list (pv 2))))) pss_nil)
  (pss_one (ps_ret (pe_ifExp (pt_cmpR op_eq (pe_ixc ix_tup (pv 0)) pe_str (nomark _)) (pe_op op_sub (pe_ixc ix_list (pv 2)) (pe_ixc ix_list (pv 2))) (pe_op op_mul (pe_ixc ix_list (pv 2)) (pe_ixc ix_list (pv 2))))))))), ?_⟩
  have hv1 := hv
  rw [Val.enc_eq] at hv1
  refine ⟨_, rfl, _, rfl, ?_⟩
  refine sla_from 1 hv1 fun v' H1 hv' k1 => ?_
  obtain ⟨a, ys, rfl, hS, hA⟩ := dp_tup hv'
  change DpAll K H1 ys (o.opds.map Opd.enc) at hA
  have ylen := dpA_len hA
  rw [List.length_map] at ylen
  refine ⟨a, rfl, ⟨ys, hS⟩, fun D hD => ?_⟩
  refine lc_tup (xs := ys) (fun i H' => Kp [] H1 H' ∧ H' D = some (.lst ((o.opds.take i).map fun x => V.int (x.val e)))) ⟨Kp.new hD, upd_same⟩ (fun i H' _ ⟨k, _⟩ => k.sqT FreeS.nil.t hS) ?_ ?_
  · rintro i y H2 hy ⟨k2, hD2⟩
    obtain ⟨x, hx, hdx⟩ := dpA_map (k2.dpA FreeS.nil hA) hy
    have hy' := opd_v hdx
    subst hy'
    have hd2 : NowAt H2 d e := k2.at (k1.at hd (by simp)) (by simp)
    have hi : i < 2 := by
      have h1 := (List.getElem?_eq_some_iff.mp hx).1
      have : o.opds.length ≤ 2 := by cases o <;> simp [Val.opds]
      omega
    have fin : ∃ acc, H2 D = some (.lst acc) ∧ acc.length < sizeLine ∧ (Kp [] H1 (upd H2 D (.lst (acc ++ [V.int (x.val e)]))) ∧ (upd H2 D (.lst (acc ++ [V.int (x.val e)]))) D = some (.lst ((o.opds.take (i + 1)).map fun x => V.int (x.val e)))) := by
      refine ⟨_, hD2, sm' (by rw [List.length_map, List.length_take]; omega), fun c u hc ec => ?_, ?_⟩
      · rw [upd_ne (ne_of_none ec hD)]
        exact k2 _ _ hc ec
      · rw [upd_same, List.take_add_one, hx, List.map_append]
        rfl
    refine ⟨rfl, ?_⟩
    cases x with
    | nm x =>
      refine ⟨_, rfl, _, _, _, _, _, rfl, ClsV.ty _, TyX.base (.str x), kit_ty (b := "str") (by decide +kernel), _, rfl, iteT ?_⟩
      refine ⟨_, rfl, d, rfl, .inl ⟨_, .inl hd2⟩, _, rfl, _, DGet.k (k := Sum.inr x) hd2, ?_⟩
      rw [kvs_getD]
      exact fin
    | num j =>
      refine ⟨_, rfl, _, _, _, _, _, rfl, ClsV.ty _, TyX.base (.int j), kit_ty (b := "str") (by decide +kernel), _, rfl, iteF ?_⟩
      exact ⟨_, rfl, fin⟩
  · rintro H2 ⟨k2, hD2⟩
    rw [List.take_of_length_le (by omega)] at hD2
    have hv2 := (k1.trans k2).dp FreeS.nil hv1
    have q2 := q H2 (k1.trans k2)
    refine ⟨_, rfl, ?_⟩
    refine ixd (i := 0) hv2 rfl fun w hw => ?_
    cases dp_str hw
    refine ⟨rfl, _, rfl, ?_⟩
    cases o with
    | as x =>
      refine iteT ?_
      exact ⟨_, rfl, D, _, _, _, rfl, rfl, SqL.of hD2, rfl, q2⟩
    | bin b x y =>
      have no : ¬ V.str b.word = V.str "as" := by cases b <;> decide
      refine ite2 (fun z => absurd (of_decide_eq_true z) no) (fun _ => ?_)
      refine ⟨_, rfl, ?_⟩
      refine ixd (i := 0) hv2 rfl fun w hw => ?_
      cases dp_str hw
      refine ⟨rfl, _, rfl, ?_⟩
      cases b with
      | plus =>
        refine iteT ?_
        exact ⟨_, rfl, D, _, _, _, rfl, rfl, SqL.of hD2, rfl, _, rfl, D, _, _, _, rfl, rfl, SqL.of hD2, rfl, _, _, rfl, rfl, q2⟩
      | less =>
        refine iteF ?_
        refine ⟨_, rfl, ?_⟩
        refine ixd (i := 0) hv2 rfl fun w hw => ?_
        cases dp_str hw
        refine ⟨rfl, _, rfl, iteT ?_⟩
        exact ⟨_, rfl, D, _, _, _, rfl, rfl, SqL.of hD2, rfl, _, rfl, D, _, _, _, rfl, rfl, SqL.of hD2, rfl, _, _, rfl, rfl, q2⟩
      | times =>
        refine iteF ?_
        refine ⟨_, rfl, ?_⟩
        refine ixd (i := 0) hv2 rfl fun w hw => ?_
        cases dp_str hw
        refine ⟨rfl, _, rfl, iteF ?_⟩
        have hy : ∃ j, y = .num j ∧ -3 ≤ j ∧ j ≤ 3 := by
          have h2 : y.isNum := hok.2
          cases y with
          | nm z => exact h2.elim
          | num j => exact ⟨j, rfl, h2⟩
        obtain ⟨j, rfl, j1, j2⟩ := hy
        refine ⟨_, rfl, D, _, _, _, rfl, rfl, SqL.of hD2, rfl, _, rfl, D, _, _, _, rfl, rfl, SqL.of hD2, rfl, _, _, rfl, rfl, .inr ⟨?_, ?_⟩, q2⟩
        · show -(2 ^ 64) < j
          omega
        · show j < 2 ^ 64
          omega
theorem pairl_ok (T : Txt K mg) : C8.Cal P w K mg base 1 "_law_pair_holds" (spPairL K) [] := by
  have nd := sc_pairl.nd
  refine calD T.d__law_pair_holds sc_pairl (fun vs H Q E h => ?_) (fun f cdv A outer s0 H vs Q E hr h => ?_)
  · obtain ⟨v, d, o, e, rfl, _⟩ := h
    rfl
  obtain ⟨v, d, ⟨pk, oa, ob⟩, e, rfl, hv, hd, q⟩ := h
  have hu := hu_of hr
  refine ⟨_, (pss_cons (ps_setLc (i := 2) (own := [("_law_operand", 3)]) rfl nd rfl rfl (sw_true rfl rfl rfl (by decide +kernel)) (pi_tup (pe_slF_tup (pv 0) pe_int)) (blkOk_by (N := ["_law_pair", "_law_now", "_law_read", "_law_operand"]) (sc := C8.fnScope (topS 79)) (by decide +kernel)) (fun _ _ _ _ _ => (pg_name (i := 3) nd rfl (Or.inl rfl))) (fun _ _ _ _ _ => pts_nil) (fun _ _ _ _ _ => (pe_ifExp (pt_val (pe_callB (id := "isinstance") (r := rIsi K) call_isi (by rfl) T.z_isinstance (by decide +kernel) (pa_cons (pv 3) (pa_cons (pe_bltn (v := .ty "str") rfl T.z_str (by decide +kernel) rfl) pa_nil)))) (pe_dget2 hu (pv 1) (pv 3) pe_int ⟨rfl, rfl, rfl, rfl⟩) (pv 3))))
  (pss_cons (ps_if (pt_cmpR op_eq (pe_ixc ix_tup (pv 0)) pe_str (nomark _)) (pss_one (ps_ret (pe_cmpR op_eq (pe_ixc ix_list (pv 2)) (pe_ixc ix_list (pv 2)) (nomark _)))) pss_nil)
  (pss_one (ps_ret (pe_ifExp (pt_cmpR op_eq (pe_ixc ix_tup (pv 0)) pe_str (nomark _)) (pe_cmpR op_lt (pe_ixc ix_list (pv 2)) (pe_ixc ix_list (pv 2)) (nomark _)) (pe_cmpR op_le (pe_ixc ix_list (pv 2)) (pe_ixc ix_list (pv 2)) (nomark _))))))), ?_⟩
  have hv1 : Dp K H v (.tuple (.str pk.word :: [oa, ob].map Opd.enc)) := hv
  refine ⟨_, rfl, _, rfl, ?_⟩
  refine sla_from 1 hv1 fun v' H1 hv' k1 => ?_
  obtain ⟨a, ys, rfl, hS, hA⟩ := dp_tup hv'
  change DpAll K H1 ys ([oa, ob].map Opd.enc) at hA
  have ylen := dpA_len hA
  rw [List.length_map] at ylen
  refine ⟨a, rfl, ⟨ys, hS⟩, fun D hD => ?_⟩
  refine lc_tup (xs := ys) (fun i H' => Kp [] H1 H' ∧ H' D = some (.lst (([oa, ob].take i).map fun x => V.int (x.val e)))) ⟨Kp.new hD, upd_same⟩ (fun i H' _ ⟨k, _⟩ => k.sqT FreeS.nil.t hS) ?_ ?_
  · rintro i y H2 hy ⟨k2, hD2⟩
    obtain ⟨x, hx, hdx⟩ := dpA_map (k2.dpA FreeS.nil hA) hy
    have hy' := opd_v hdx
    subst hy'
    have hd2 : NowAt H2 d e := k2.at (k1.at hd (by simp)) (by simp)
    have hi : i < 2 := (List.getElem?_eq_some_iff.mp hx).1
    have fin : ∃ acc, H2 D = some (.lst acc) ∧ acc.length < sizeLine ∧ (Kp [] H1 (upd H2 D (.lst (acc ++ [V.int (x.val e)]))) ∧ (upd H2 D (.lst (acc ++ [V.int (x.val e)]))) D = some (.lst (([oa, ob].take (i + 1)).map fun x => V.int (x.val e)))) := by
      refine ⟨_, hD2, sm' (by rw [List.length_map, List.length_take]; omega), fun c u hc ec => ?_, ?_⟩
      · rw [upd_ne (ne_of_none ec hD)]
        exact k2 _ _ hc ec
      · rw [upd_same, List.take_add_one, hx, List.map_append]
        rfl
    refine ⟨rfl, ?_⟩
    cases x with
    | nm x =>
      refine ⟨_, rfl, _, _, _, _, _, rfl, ClsV.ty _, TyX.base (.str x), kit_ty (b := "str") (by decide +kernel), _, rfl, iteT ?_⟩
      refine ⟨_, rfl, d, rfl, .inl ⟨_, .inl hd2⟩, _, rfl, _, DGet.k (k := Sum.inr x) hd2, ?_⟩
      rw [kvs_getD]
      exact fin
    | num j =>
      refine ⟨_, rfl, _, _, _, _, _, rfl, ClsV.ty _, TyX.base (.int j), kit_ty (b := "str") (by decide +kernel), _, rfl, iteF ?_⟩
      exact ⟨_, rfl, fin⟩
  · rintro H2 ⟨k2, hD2⟩
    rw [List.take_of_length_le (by rw [ylen]; exact Nat.le_refl _)] at hD2
    have hv2 := (k1.trans k2).dp FreeS.nil hv1
    have q2 := q H2 (k1.trans k2)
    refine ⟨_, rfl, ?_⟩
    refine ixd (i := 0) hv2 rfl fun w hw => ?_
    cases dp_str hw
    refine ⟨rfl, _, rfl, ?_⟩
    cases pk with
    | is =>
      refine iteT ?_
      refine ⟨_, rfl, D, _, _, _, rfl, rfl, SqL.of hD2, rfl, _, rfl, D, _, _, _, rfl, rfl, SqL.of hD2, rfl, rfl, ?_⟩
      have e1 : decide (V.int (oa.val e) = V.int (ob.val e)) = decide (oa.val e = ob.val e) := decide_eq_decide.mpr (by rw [V.int.injEq])
      show Q (.bl (decide (V.int (oa.val e) = V.int (ob.val e)))) H2
      rw [e1]
      exact q2
    | below =>
      refine iteF ?_
      refine ⟨_, rfl, ?_⟩
      refine ixd (i := 0) hv2 rfl fun w hw => ?_
      cases dp_str hw
      refine ⟨rfl, _, rfl, iteT ?_⟩
      exact ⟨_, rfl, D, _, _, _, rfl, rfl, SqL.of hD2, rfl, _, rfl, D, _, _, _, rfl, rfl, SqL.of hD2, rfl, _, _, rfl, rfl, q2⟩
    | most =>
      refine iteF ?_
      refine ⟨_, rfl, ?_⟩
      refine ixd (i := 0) hv2 rfl fun w hw => ?_
      cases dp_str hw
      refine ⟨rfl, _, rfl, iteF ?_⟩
      exact ⟨_, rfl, D, _, _, _, rfl, rfl, SqL.of hD2, rfl, _, rfl, D, _, _, _, rfl, rfl, SqL.of hD2, rfl, _, _, rfl, rfl, q2⟩
end
end Sv
end
section
set_option Elab.async false
set_option linter.all false
set_option autoImplicit false
set_option maxRecDepth 100000
/-! W10: the law's run: turns, conditions. -/
namespace Sv
open PySem PySem.Spec PyProof.Rows L2
open C8 (pe_c pe_mt pe_mt0 pe_mk pe_gc)

/-- the state's place, its list of deeds, its values -/
structure Sa where
  a : Addr
  dl : Addr
  nd : Addr
abbrev Sa.M (p : Sa) : List Addr := [p.a, p.dl, p.nd]
def optV : Option Int → V
  | none => .non
  | some i => .int i
def stK (p : Sa) (left : Nat) (v : Option Int) : List (Key × V) := [(Sum.inr "left", .int (left : Nat)), (Sum.inr "deeds", .ref p.dl), (Sum.inr "now", .ref p.nd), (Sum.inr "value", optV v)]
theorem stK_len {p : Sa} {n : Nat} {v : Option Int} : (stK p n v).length < sizeLine := by show 4 < sizeLine; decide
structure StS (K : PySem.W.Frag) (H : Hp) (p : Sa) (r : Rs) (ds : List V) : Prop where
  ha : H p.a = some (.dK (stK p r.left r.val))
  hd : H p.dl = some (.lst ds)
  hA : DpAll K H ds (r.deeds.map Deed.enc)
  hn : NowAt H p.nd r.env
  ne : p.a ≠ p.nd
  b1 : r.deeds.length + r.left ≤ 1000
  b2 : r.env.length + r.left ≤ 1000
structure StAt (K : PySem.W.Frag) (H : Hp) (p : Sa) (r : Rs) : Prop where
  ex : ∃ ds, StS K H p r ds
section
variable {K : PySem.W.Frag} {H H' : Hp} {p : Sa} {r : Rs} {ds : List V} {q : Addr} {o : HO}
theorem StS.freet (h : StS K H p r ds) : FreeT p.M H := fun b hb => by
  simp only [List.mem_cons, List.not_mem_nil, or_false] at hb
  rcases hb with rfl | rfl | rfl
  · rw [h.ha]; rfl
  · rw [h.hd]; rfl
  · rw [h.hn]; rfl
theorem StAt.freet (h : StAt K H p r) : FreeT p.M H := by
  obtain ⟨ds, h⟩ := h.ex
  exact h.freet
theorem StS.kp0 (h : StS K H p r ds) (k : Kp [] H H') : StS K H' p r ds := ⟨k.at h.ha (by simp), k.at h.hd (by simp), k.dpA FreeS.nil h.hA, k.at h.hn (by simp), h.ne, h.b1, h.b2⟩
theorem StAt.kp0 (h : StAt K H p r) (k : Kp [] H H') : StAt K H' p r := by
  obtain ⟨ds, h⟩ := h.ex
  exact ⟨ds, h.kp0 k⟩
theorem StAt.new (h : StAt K H p r) (hq : H q = none) : StAt K (upd H q o) p r := h.kp0 (Kp.new hq)
theorem StS.nedl (h : StS K H p r ds) : p.a ≠ p.dl ∧ p.nd ≠ p.dl := by
  constructor
  · intro z
    have := h.ha
    rw [z, h.hd] at this
    cases this
  · intro z
    have := h.hn
    unfold NowAt at this
    rw [z, h.hd] at this
    cases this
theorem deeds_tu (l : List Deed) : tuA (l.map Deed.enc) = true := tuA_all fun d hd => by
  obtain ⟨x, _, rfl⟩ := List.mem_map.mp hd
  exact x.tu
end
def spTurn (K : PySem.W.Frag) : Sp := fun vs H Q _ => ∃ (p : Sa) (v : V) (r : Rs) (d : Deed), vs = [.ref p.a, v] ∧ StAt K H p r ∧ Dp K H v d.enc ∧ ∀ H', Kp p.M H H' → StAt K H' p (turn d r).2 → Q (.bl (turn d r).1) H'
theorem sc_turn : FnScope ["_law_state", "_law_deed"] ["_law_state", "_law_deed"] (C8.fnScope (topS 84)) := C8.fnScope_by (by decide +kernel)
theorem sc_goc : FnScope ["_law_state", "_law_told", "_law_truth", "_law_one"] ["_law_state", "_law_told"] (C8.fnScope (topS 85)) := C8.fnScope_by (by decide +kernel)
def optB : Option Bool → V
  | none => .non
  | some b => .bl b
def spGoC (K : PySem.W.Frag) (n : Nat) : Sp := fun vs H Q _ => ∃ (p : Sa) (v : V) (r : Rs) (c : Cnd), vs = [.ref p.a, v] ∧ StAt K H p r ∧ Dp K H v c.enc ∧ c.dp < n ∧ ∀ H', Kp p.M H H' → StAt K H' p (goC c r).2 → Q (optB (goC c r).1) H'
section
variable {P : Program} {w : World} {K : PySem.W.Frag} {mg : Str → Option Value} {base : Heap}
set_option maxHeartbeats 1000000
theorem turn_ok (T : Txt K mg) : C8.Cal P w K mg base 1 "_law_turn" (spTurn K) [] := by
  have nd := sc_turn.nd
  refine calD T.d__law_turn sc_turn (fun vs H Q E h => ?_) (fun f cdv A outer s0 H vs Q E hr h => ?_)
  · obtain ⟨p, v, r, d, rfl, _⟩ := h
    rfl
  obtain ⟨p, v, r, d, rfl, hS, hd, q⟩ := h
  have hu := hu_of hr
  obtain ⟨ds, h⟩ := hS.ex
  refine ⟨_, (pss_cons (ps_if (pt_cmpR op_eq (pe_dget hu (pv 0) pe_str (fun _ _ => rfl)) pe_int (nomark _)) (pss_one (ps_ret pe_bl)) pss_nil)
  (pss_cons (ps_dput hu (pv 0) pe_str (pe_op op_sub (pe_dget hu (pv 0) pe_str (fun _ _ => rfl)) pe_int) rfl)
  (pss_cons (ps_expr (pe_bm PySem.F.plainAttrs_list PySem.F.slot_list_append PySem.F.type_list_append mt_append (pe_dget hu (pv 0) pe_str (fun _ _ => rfl)) (pa_cons (pv 1) pa_nil)))
  (pss_one (ps_ret pe_bl))))), ?_⟩
  refine ⟨_, rfl, p.a, _, rfl, DGet.k (k := Sum.inr "left") h.ha, rfl, _, rfl, ?_⟩
  refine ite2 (fun e => ?_) (fun e => ?_)
  · have e0 : r.left = 0 := by have := V.int.inj (of_decide_eq_true e); omega
    have := q H Kp.refl (by rw [turn_no e0]; exact hS)
    rw [turn_no e0] at this
    exact this
  · have e0 : r.left ≠ 0 := fun z => e (decide_eq_true (congrArg V.int (by omega)))
    rw [turn_yes e0] at q
    refine ⟨_, rfl, p.a, _, rfl, DGet.k (k := Sum.inr "left") h.ha, _, _, rfl, rfl, ?_⟩
    refine ⟨_, rfl, p.a, _, rfl, DPut.k (k := Sum.inr "left") h.ha stK_len, ?_⟩
    have ei : V.int ((r.left : Int) - 1) = .int ((r.left - 1 : Nat) : Int) := congrArg V.int (by omega)
    have ek : putK (stK p r.left r.val) (Sum.inr "left") (.int ((r.left : Int) - 1)) = stK p (r.left - 1) r.val := by rw [ei]; rfl
    rw [ek]
    obtain ⟨n1, n2⟩ := h.nedl
    have k1 : Kp p.M H (upd H p.a (.dK (stK p (r.left - 1) r.val))) := Kp.put (by simp)
    have a1 : (upd H p.a (.dK (stK p (r.left - 1) r.val))) p.a = some (.dK (stK p (r.left - 1) r.val)) := upd_same
    have l1 : (upd H p.a (.dK (stK p (r.left - 1) r.val))) p.dl = some (.lst ds) := by rw [upd_ne n1.symm]; exact h.hd
    have nn1 : NowAt (upd H p.a (.dK (stK p (r.left - 1) r.val))) p.nd r.env := by unfold NowAt; rw [upd_ne h.ne.symm]; exact h.hn
    have A1 := k1.dpTA h.freet (deeds_tu _) h.hA
    have d1 := k1.dpT h.freet d.tu hd
    generalize upd H p.a (.dK (stK p (r.left - 1) r.val)) = H1 at *
    have dlen := dpA_len h.hA
    rw [List.length_map] at dlen
    have b1 := h.b1
    refine ⟨_, rfl, p.a, _, rfl, DGet.k (k := Sum.inr "deeds") a1, .inl ⟨rfl, _, SqL.of l1⟩, ?_⟩
    refine ⟨_, rfl, p.dl, ds, _, rfl, rfl, l1, sm' (by omega), ?_⟩
    have k2 : Kp [p.dl] H1 (upd H1 p.dl (.lst (ds ++ [v]))) := Kp.put (by simp)
    have f2 : FreeT [p.dl] H1 := fun b hb => by rw [List.mem_singleton] at hb; rw [hb, l1]; rfl
    refine q _ (k1.trans (k2.sub fun a ha => by rw [List.mem_singleton] at ha; rw [ha]; simp)) ⟨ds ++ [v], ?_, upd_same, ?_, ?_, h.ne, ?_, ?_⟩
    · rw [upd_ne n1]; exact a1
    · rw [List.map_append]
      exact k2.dpTA f2 (by rw [← List.map_append]; exact deeds_tu (r.deeds ++ [d])) (dpA_app A1 (.cons d1 .nil))
    · unfold NowAt; rw [upd_ne n2]; exact nn1
    · show (r.deeds ++ [d]).length + (r.left - 1) ≤ 1000
      rw [List.length_append, List.length_singleton]
      omega
    · have b2 := h.b2
      show r.env.length + (r.left - 1) ≤ 1000
      omega
theorem goc_step (T : Txt K mg) (n : Nat) (c__law_go_condition : C8.Cal P w K mg base (2 + n) "_law_go_condition" (spGoC K n) []) : C8.Cal P w K mg base (2 + n + 1) "_law_go_condition" (spGoC K (n + 1)) [] := by
  have nd := sc_goc.nd
  have c__law_turn := turn_ok (P := P) (w := w) (base := base) T
  have c__law_pair_holds := pairl_ok (P := P) (w := w) (base := base) T
  refine calD T.d__law_go_condition sc_goc (fun vs H Q E h => ?_) (fun f cdv A outer s0 H vs Q E hr h => ?_)
  · obtain ⟨p, v, r, c, rfl, _⟩ := h
    rfl
  obtain ⟨p, v, r, c, rfl, hS, hc, hn, q⟩ := h
  have hu := hu_of hr
  refine ⟨_, (pss_cons (ps_if (pt_cmpR op_in_seq (pe_ixc ix_tup (pv 1)) (pe_lst (pa_cons pe_str (pa_cons pe_str (pa_cons pe_str pa_nil)))) (by rfl)) (pss_cons (ps_asg (pe_c c__law_pair_holds hr (by omega) rfl (pa_cons (pv 1) (pa_cons (pe_dget hu (pv 0) pe_str (fun _ _ => rfl)) pa_nil))) (pg_name (i := 2) nd rfl (Or.inl rfl)))
  (pss_one (ps_ret (pe_ifExp (pt_val (pe_c c__law_turn hr (by omega) rfl (pa_cons (pv 0) (pa_cons (pe_tup (pa_cons pe_str (pa_cons (pv 1) (pa_cons (pv 2) pa_nil)))) pa_nil)))) (pv 2) pe_non)))) pss_nil)
  (pss_cons (ps_asg (pe_c c__law_go_condition hr (by omega) rfl (pa_cons (pv 0) (pa_cons (pe_ixc ix_tup (pv 1)) pa_nil))) (pg_name (i := 3) nd rfl (Or.inl rfl)))
  (pss_cons (ps_if (PW.pt (pw_or (pt_cmpR op_isN (pv 3) pe_non (nomark _)) (pw_or1 (pt_cmpR op_eq (pe_ixc ix_tup (pv 1)) pe_str (nomark _))))) (pss_one (ps_ret (pe_ifExp (pt_cmpR op_isN (pv 3) pe_non (nomark _)) pe_non (pe_not (pv 3))))) pss_nil)
  (pss_cons (ps_if (PW.pt (pw_or (PW.pt (pw_and (pt_cmpR op_eq (pe_ixc ix_tup (pv 1)) pe_str (nomark _)) (pw_and1 (pt_not (pt_val (pv 3)))))) (pw_or1 (PW.pt (pw_and (pt_cmpR op_eq (pe_ixc ix_tup (pv 1)) pe_str (nomark _)) (pw_and1 (pt_val (pv 3)))))))) (pss_one (ps_ret (pv 3))) pss_nil)
  (pss_one (ps_ret (pe_c c__law_go_condition hr (by omega) rfl (pa_cons (pv 0) (pa_cons (pe_ixc ix_tup (pv 1)) pa_nil))))))))), ?_⟩
  refine ⟨_, rfl, ?_⟩
  cases c with
  | pair pr =>
    have hp : Dp K H v (.tuple [.str pr.k.word, pr.a.enc, pr.b.enc]) := hc
    refine ixd (i := 0) hp rfl fun w hw => ?_
    cases dp_str hw
    refine ⟨(by show 3 ≤ sizeLine; decide), fun t ht => ?_⟩
    refine ⟨t, _, rfl, .inl (SqL.of upd_same), rfl, rfl, _, rfl, ?_⟩
    have yes : inV (.str pr.k.word) [V.str "below", .str "most", .str "is"] = true := by
      obtain ⟨k, a, b⟩ := pr
      cases k <;> rfl
    refine ite2 (fun _ => ?_) (fun z => absurd yes z)
    have hS1 := hS.new (o := .lst [V.str "below", .str "most", .str "is"]) ht
    have hc1 : Dp K (upd H t (.lst [V.str "below", .str "most", .str "is"])) v pr.enc := (Kp.new (M := []) ht).dp FreeS.nil hc
    have k1 : Kp p.M H (upd H t (.lst [V.str "below", .str "most", .str "is"])) := Kp.new ht
    generalize upd H t (.lst [V.str "below", .str "most", .str "is"]) = H1 at hS1 hc1 k1 ⊢
    obtain ⟨ds, h1⟩ := hS1.ex
    refine ⟨_, rfl, _, rfl, p.a, _, rfl, DGet.k (k := Sum.inr "now") h1.ha, ?_⟩
    refine ⟨v, p.nd, pr, r.env, rfl, hc1, h1.hn, fun H2 k2 => ?_⟩
    have hc2 := k2.dp FreeS.nil hc1
    refine ⟨_, rfl, _, rfl, _, rfl, (by show 3 ≤ sizeLine; decide), fun u hu1 => ?_⟩
    have d1 : Dp K (upd H2 u (.tup [.str "test", v, .bl (pr.holds r.env)])) (.ref u) (Deed.test pr (pr.holds r.env)).enc := dp_new upd_same (.cons (.str _) (.cons ((Kp.new (M := []) hu1).dp FreeS.nil hc2) (.cons (.bl _) .nil)))
    refine ⟨p, .ref u, r, _, rfl, (hS1.kp0 k2).new hu1, d1, fun H3 k3 hS3 => ?_⟩
    have k := k1.trans (k2.all.trans ((Kp.new hu1).trans k3))
    have e : goC (.pair pr) r = ((match (turn (.test pr (pr.holds r.env)) r).1 with | true => some (pr.holds r.env) | false => none), (turn (.test pr (pr.holds r.env)) r).2) := by
      rw [goC]
      cases turn (.test pr (pr.holds r.env)) r with
      | mk b q => cases b <;> rfl
    rw [e] at q
    have q3 := q H3 k hS3
    refine ⟨_, rfl, ?_⟩
    revert q3
    cases (turn (.test pr (pr.holds r.env)) r).1 with
    | true => exact fun q3 => iteT ⟨_, rfl, q3⟩
    | false => exact fun q3 => iteF q3
  | not c =>
    have hp : Dp K H v (.tuple [.str "not", c.enc]) := hc
    refine ixd (i := 0) hp rfl fun w hw => ?_
    cases dp_str hw
    refine ⟨(by show 3 ≤ sizeLine; decide), fun t ht => ?_⟩
    refine ⟨t, _, rfl, .inl (SqL.of upd_same), rfl, rfl, _, rfl, iteF ?_⟩
    have hp1 := (Kp.new (M := []) (o := .lst [V.str "below", .str "most", .str "is"]) ht).dp FreeS.nil hp
    refine ⟨_, rfl, _, rfl, ?_⟩
    refine ixd (i := 1) hp1 rfl fun w hw => ?_
    refine ⟨p, w, r, c, rfl, hS.new ht, hw, by rw [Cnd.dp] at hn; omega, fun H2 k2 hS2 => ?_⟩
    have kk : Kp p.M H H2 := (Kp.new ht).trans k2
    have e : goC (.not c) r = ((goC c r).1.map (fun b => !b), (goC c r).2) := by
      rw [goC]
      cases goC c r with
      | mk b q => cases b <;> rfl
    rw [e] at q
    have q3 := q H2 kk hS2
    have hp2 := kk.dpT hS.freet (Cnd.tu (.not c)) hc
    revert q3
    cases (goC c r).1 with
    | none =>
      exact fun q3 => ⟨_, rfl, rfl, _, rfl, iteT ⟨_, rfl, rfl, _, rfl, iteT q3⟩⟩
    | some b =>
      intro q3
      refine ⟨_, rfl, rfl, _, rfl, iteF ?_⟩
      refine ⟨_, rfl, ?_⟩
      refine ixd (i := 0) (show Dp K H2 v (.tuple [.str "not", c.enc]) from hp2) rfl fun w hw => ?_
      cases dp_str hw
      exact ⟨rfl, _, rfl, iteT ⟨_, rfl, rfl, _, rfl, iteF ⟨_, rfl, _, rfl, q3⟩⟩⟩
  | bin b c d =>
    have hp : Dp K H v (.tuple [.str (bw b), c.enc, d.enc]) := hc
    refine ixd (i := 0) hp rfl fun w hw => ?_
    cases dp_str hw
    refine ⟨(by show 3 ≤ sizeLine; decide), fun t ht => ?_⟩
    have no : inV (.str (bw b)) [V.str "below", .str "most", .str "is"] = false := by cases b <;> rfl
    refine ⟨t, _, rfl, .inl (SqL.of upd_same), rfl, rfl, _, rfl, ?_⟩
    refine ite2 (fun z => absurd (no.symm.trans z) (by decide)) (fun _ => ?_)
    have hp1 := (Kp.new (M := []) (o := .lst [V.str "below", .str "most", .str "is"]) ht).dp FreeS.nil hp
    rw [Cnd.dp] at hn
    refine ⟨_, rfl, _, rfl, ?_⟩
    refine ixd (i := 1) hp1 rfl fun w hw => ?_
    refine ⟨p, w, r, c, rfl, hS.new ht, hw, by omega, fun H2 k2 hS2 => ?_⟩
    have kk : Kp p.M H H2 := (Kp.new ht).trans k2
    have hp2 : Dp K H2 v (.tuple [.str (bw b), c.enc, d.enc]) := kk.dpT hS.freet (Cnd.tu (.bin b c d)) hc
    rw [goC] at q
    generalize goC c r = g at q hS2 ⊢
    obtain ⟨g1, r2⟩ := g
    cases g1 with
    | none => exact ⟨_, rfl, rfl, _, rfl, iteT ⟨_, rfl, rfl, _, rfl, iteT (q H2 kk hS2)⟩⟩
    | some x =>
      refine ⟨_, rfl, rfl, _, rfl, iteF ?_⟩
      refine ⟨_, rfl, ?_⟩
      refine ixd (i := 0) hp2 rfl fun w hw => ?_
      cases dp_str hw
      have no2 : ¬ V.str (bw b) = V.str "not" := by cases b <;> decide
      refine ⟨rfl, _, rfl, ?_⟩
      refine ite2 (fun z => absurd (of_decide_eq_true z) no2) (fun _ => ?_)
      refine ⟨_, rfl, ?_⟩
      refine ixd (i := 0) hp2 rfl fun w hw => ?_
      cases dp_str hw
      have more : ∀ (Q' : VK), (∀ H', Kp p.M H H' → StAt K H' p (goC d r2).2 → Q' (optB (goC d r2).1) H') → rIxT K v (.int (2 : Nat)) H2 (fun y H3 => spGoC K n [.ref p.a, y] H3 Q' C8.E0) := fun Q' hq => by
        refine ixd (i := 2) hp2 rfl fun w hw => ?_
        exact ⟨p, w, r2, d, rfl, hS2, hw, by omega, fun H3 k3 hS3 => hq H3 (kk.trans k3) hS3⟩
      cases b with
      | true =>
        refine ⟨rfl, _, rfl, iteT ?_⟩
        refine ⟨_, rfl, x, rfl, ?_⟩
        cases x with
        | true =>
          refine iteF ?_
          refine ⟨_, rfl, ?_⟩
          refine ixd (i := 0) hp2 rfl fun w hw => ?_
          cases dp_str hw
          refine ⟨rfl, _, rfl, iteF ?_⟩
          refine ⟨_, rfl, _, rfl, ?_⟩
          refine more Q fun H3 k3 hS3 => q H3 k3 hS3
        | false =>
          refine iteT ?_
          exact ⟨_, rfl, q H2 kk hS2⟩
      | false =>
        refine ⟨rfl, _, rfl, iteF ?_⟩
        refine ⟨_, rfl, ?_⟩
        refine ixd (i := 0) hp2 rfl fun w hw => ?_
        cases dp_str hw
        refine ⟨rfl, _, rfl, iteT ?_⟩
        refine ⟨_, rfl, x, rfl, ?_⟩
        cases x with
        | true =>
          refine iteT ?_
          exact ⟨_, rfl, q H2 kk hS2⟩
        | false =>
          refine iteF ?_
          refine ⟨_, rfl, _, rfl, ?_⟩
          refine more Q fun H3 k3 hS3 => q H3 k3 hS3
end
end Sv
end
section
set_option Elab.async false
set_option linter.all false
set_option autoImplicit false
set_option maxRecDepth 100000
/-! W11: the law's run: blocks, statements, rounds. -/
namespace Sv
open PySem PySem.Spec PyProof.Rows L2
open C8 (pe_c pe_mt pe_mt0 pe_mk pe_gc)

theorem op_isnotT {X : Cx} : OpR X (compareOp .IsNot) (fun x y H Q => ∃ b, x = optB b ∧ y = .bl true ∧ Q (.bl (!decide (b = some true))) H) := by
  intro pins s σ H x y v u Q I rx ry h
  obtain ⟨b, rfl, rfl, q⟩ := h
  cases (show u = Value.bool true from ry)
  cases b with
  | none =>
    cases (show v = Value.none from rx)
    exact wpAny_isNot_other rfl (fun z => nomatch z) ⟨.bl true, H, I, rfl, q⟩
  | some b =>
    cases (show v = Value.bool b from rx)
    cases b with
    | true => exact wpAny_isNot_self rfl ⟨.bl false, H, I, rfl, q⟩
    | false => exact wpAny_isNot_other rfl (fun z => nomatch z) ⟨.bl true, H, I, rfl, q⟩
def Mode.w : Mode → Str
  | .on => "on"
  | .cut => "cut"
  | .give => "give"
  | .brk => "break"
  | .nxt => "next"
def goLs : List Stm → Rs → Mode × Rs
  | [], r => (.on, r)
  | s :: b, r => match goS s r with
    | (.on, q) => goLs b q
    | (.cut, q) => (.cut, q)
    | (.give, q) => (.give, q)
    | (.brk, q) => (.brk, q)
    | (.nxt, q) => (.nxt, q)
theorem goLs_eq : ∀ (b : Blk) (r : Rs), goL b r = goLs b.toL r
  | .nil, r => by rw [goL]; rfl
  | .cons s b, r => by
    rw [goL, Blk.toL, goLs]
    cases goS s r with
    | mk md q => cases md <;> first | rfl | exact goLs_eq b q
theorem goLs_on {s : Stm} {b : List Stm} {r : Rs} (h : (goS s r).1 = .on) : goLs (s :: b) r = goLs b (goS s r).2 := by
  rw [goLs]
  revert h
  cases goS s r with
  | mk md q =>
    intro h
    have h' : md = .on := h
    subst h'
    rfl
theorem goLs_off {s : Stm} {b : List Stm} {r : Rs} (h : (goS s r).1 ≠ .on) : goLs (s :: b) r = goS s r := by
  rw [goLs]
  revert h
  cases goS s r with
  | mk md q =>
    intro h
    cases md <;> first | rfl | exact absurd rfl h
def spGoB (K : PySem.W.Frag) (n : Nat) : Sp := fun vs H Q _ => ∃ (p : Sa) (v : V) (r : Rs) (b : Blk) (N : List Str) (l : Bool), vs = [.ref p.a, v] ∧ StAt K H p r ∧ Dp K H v b.enc ∧ OkN N ∧ b.ok N l ∧ b.dp < n ∧ b.dp ≤ 30 ∧ ∀ H', Kp p.M H H' → StAt K H' p (goB b r).2 → Q (.str (goB b r).1.w) H'
def spGoS (K : PySem.W.Frag) (n : Nat) : Sp := fun vs H Q _ => ∃ (p : Sa) (v : V) (r : Rs) (b : Stm) (N : List Str) (l : Bool), vs = [.ref p.a, v] ∧ StAt K H p r ∧ Dp K H v b.enc ∧ OkN N ∧ b.ok N l ∧ b.dp < n ∧ b.dp ≤ 30 ∧ ∀ H', Kp p.M H H' → StAt K H' p (goS b r).2 → Q (.str (goS b r).1.w) H'
/-- a while or a loop: its test, its block -/
inductive Round : Stm → Option Cnd → Blk → Prop
  | w (c : Cnd) (b : Blk) : Round (.while c b) (some c) b
  | l (b : Blk) : Round (.loop b) none b
def spGoR (K : PySem.W.Frag) (n : Nat) : Sp := fun vs H Q _ => ∃ (p : Sa) (v : V) (r : Rs) (b : Stm) (c : Option Cnd) (bb : Blk) (N : List Str) (l : Bool), vs = [.ref p.a, v] ∧ Round b c bb ∧ StAt K H p r ∧ Dp K H v b.enc ∧ OkN N ∧ b.ok N l ∧ b.dp < n ∧ b.dp ≤ 30 ∧ ∀ H', Kp p.M H H' → StAt K H' p (goS b r).2 → Q (.str (goS b r).1.w) H'
theorem sc_gob : FnScope ["_law_state", "_law_block", "_law_told", "_law_mode"] ["_law_state", "_law_block"] (C8.fnScope (topS 86)) := C8.fnScope_by (by decide +kernel)
theorem sc_gos : FnScope ["_law_state", "_law_told", "_law_truth", "_law_now"] ["_law_state", "_law_told"] (C8.fnScope (topS 87)) := C8.fnScope_by (by decide +kernel)
theorem sc_gor : FnScope ["_law_state", "_law_told", "_law_lap", "_law_truth", "_law_mode"] ["_law_state", "_law_told"] (C8.fnScope (topS 88)) := C8.fnScope_by (by decide +kernel)
section
variable {P : Program} {w : World} {K : PySem.W.Frag} {mg : Str → Option Value} {base : Heap}
theorem goc_ok (T : Txt K mg) : ∀ n, C8.Cal P w K mg base (2 + n) "_law_go_condition" (spGoC K n) []
  | 0 => calVac T.d__law_go_condition fun vs H Q E h => by
    obtain ⟨p, v, r, c, _, _, _, hd, _⟩ := h
    exact absurd hd (Nat.not_lt_zero _)
  | n + 1 => goc_step T n (goc_ok T n)
set_option maxHeartbeats 1000000
theorem gob_step (T : Txt K mg) (n : Nat) (c__law_go_statement : C8.Cal P w K mg base (10 + 2 * n) "_law_go_statement" (spGoS K n) []) : C8.Cal P w K mg base (10 + 2 * n + 1 + 1) "_law_go_block" (spGoB K (n + 1)) [] := by
  have nd := sc_gob.nd
  have c__law_turn := turn_ok (P := P) (w := w) (base := base) T
  refine calD T.d__law_go_block sc_gob (fun vs H Q E h => ?_) (fun f cdv A outer s0 H vs Q E hr h => ?_)
  · obtain ⟨p, v, r, b, N, l, rfl, _⟩ := h
    rfl
  obtain ⟨p, v, r, b, N, l, rfl, hS, hb, hN, hok, hn, hd, q⟩ := h
  have hu := hu_of hr
  refine ⟨_, (pss_cons (ps_if (pt_cmpR (op_eqD hr.units) (pv 1) (pe_tup pa_nil) (nomark _)) (pss_one (ps_ret (pe_ifExp (pt_val (pe_c c__law_turn hr (by omega) rfl (pa_cons (pv 0) (pa_cons (pe_tup (pa_cons pe_str pa_nil)) pa_nil)))) pe_str pe_str))) pss_nil)
  (pss_cons (ps_for PassesOwn.never rfl (pi_tup (pv 1)) (pg_name (i := 2) nd rfl (Or.inl rfl))
    (pss_cons (ps_asg (pe_c c__law_go_statement hr (by omega) rfl (pa_cons (pv 0) (pa_cons (pv 2) pa_nil))) (pg_name (i := 3) nd rfl (Or.inl rfl)))
  (pss_one (ps_if (pt_cmpR op_ne (pv 3) pe_str (nomark _)) (pss_one (ps_ret (pv 3))) pss_nil))))
  (pss_one (ps_ret pe_str)))), ?_⟩
  refine ⟨_, rfl, (by show 0 ≤ sizeLine; decide), fun t ht => ?_⟩
  refine ⟨b.enc, .tuple [], (Kp.new (M := []) ht).dp FreeS.nil hb, dp_new upd_same .nil, b.shaped hN hok hd, by decide +kernel, _, rfl, ?_⟩
  rw [blk_eq_nil]
  have k1 : Kp p.M H (upd H t (.tup [])) := Kp.new ht
  have hS1 := hS.new (o := .tup []) ht
  have hb1 := (Kp.new (M := []) (o := .tup []) ht).dp FreeS.nil hb
  generalize upd H t (.tup []) = H1 at *
  cases b with
  | nil =>
    refine iteT ?_
    refine ⟨_, rfl, (by show 1 ≤ sizeLine; decide), fun a ha => ?_⟩
    have d1 : Dp K (upd H1 a (.tup [.str "skip"])) (.ref a) Deed.skip.enc := dp_new upd_same (.cons (.str _) .nil)
    refine ⟨p, .ref a, r, .skip, rfl, hS1.new ha, d1, fun H2 k2 hS2 => ?_⟩
    have e : goB .nil r = ((match (turn .skip r).1 with | true => .on | false => .cut), (turn .skip r).2) := by
      show plainM .skip .on r = _
      rw [plainM]
      cases turn .skip r with
      | mk b q => cases b <;> rfl
    rw [e] at q
    have q2 := q H2 (k1.trans ((Kp.new ha).trans k2)) hS2
    refine ⟨_, rfl, ?_⟩
    revert q2
    cases (turn .skip r).1 with
    | true => exact fun q2 => iteT q2
    | false => exact fun q2 => iteF q2
  | cons st rest =>
    refine iteF ?_
    have eB : goB (.cons st rest) r = goLs (Blk.toL (.cons st rest)) r := goLs_eq _ r
    rw [eB] at q
    generalize hbk : Blk.cons st rest = bk at *
    obtain ⟨a, xs, rfl, hSq, hA⟩ := dp_blk hb1
    have tuA1 : tuA (bk.toL.map Stm.enc) = true := tuA_all fun d hd => by
      obtain ⟨x, _, rfl⟩ := List.mem_map.mp hd
      exact x.tu
    refine ⟨_, rfl, a, rfl, ⟨xs, hSq⟩, ?_⟩
    refine for_tup (xs := xs) (fun i σ H' => ∃ v2 v3 r2, σ = [some (.ref p.a), some (.ref a), v2, v3] ∧ Kp p.M H1 H' ∧ StAt K H' p r2 ∧ goLs (bk.toL.drop i) r2 = goLs bk.toL r) ⟨_, _, r, rfl, Kp.refl, hS1, rfl⟩ (fun i σ H' _ ⟨_, _, _, _, k, _⟩ => k.sqT hS1.freet hSq) ?_ ?_
    · rintro i x _ H2 hx ⟨v2, v3, r2, rfl, k2, hS2, e2⟩
      obtain ⟨s2, hs2, hd2⟩ := dpA_map (k2.dpTA hS1.freet tuA1 hA) hx
      have hm := List.mem_of_getElem? hs2
      have hdp := toL_dp hm
      obtain ⟨hi, hie⟩ := List.getElem?_eq_some_iff.mp hs2
      have ed : bk.toL.drop i = s2 :: bk.toL.drop (i + 1) := by rw [← hie]; exact List.drop_eq_getElem_cons hi
      rw [ed] at e2
      refine ⟨_, rfl, _, rfl, p, x, r2, s2, N, l, rfl, hS2, hd2, hN, toL_ok hok hm, by omega, by omega, fun H3 k3 hS3 => ?_⟩
      have k13 := k2.trans k3
      by_cases on : (goS s2 r2).1 = .on
      · refine ⟨_, rfl, rfl, _, rfl, ?_⟩
        rw [on]
        refine iteF ?_
        refine ⟨_, _, (goS s2 r2).2, rfl, k13, hS3, ?_⟩
        rw [← e2, goLs_on on]
      · refine ⟨_, rfl, rfl, _, rfl, ?_⟩
        have ne : (!decide (V.str (goS s2 r2).1.w = V.str "on")) = true := by
          revert on
          cases (goS s2 r2).1 <;> intro on <;> first | exact absurd rfl on | decide +kernel
        refine ite2 (fun _ => ?_) (fun z => absurd ne z)
        rw [goLs_off on] at e2
        refine ⟨_, rfl, ?_⟩
        have := q H3 (k1.trans k13) (by rw [← e2]; exact hS3)
        rw [← e2] at this
        exact this
    · rintro _ H2 ⟨v2, v3, r2, rfl, k2, hS2, e2⟩
      have xl := dpA_len hA
      rw [List.length_map] at xl
      rw [List.drop_eq_nil_of_le (by omega)] at e2
      have := q H2 (k1.trans k2) (by rw [← e2]; exact hS2)
      rw [← e2] at this
      exact this
theorem gor_step (T : Txt K mg) (n : Nat) (c__law_go_block : C8.Cal P w K mg base (10 + 2 * n) "_law_go_block" (spGoB K n) []) : C8.Cal P w K mg base (10 + 2 * n + 1) "_law_go_round" (spGoR K (n + 1)) [] := by
  have nd := sc_gor.nd
  have c__law_go_condition := goc_ok (P := P) (w := w) (base := base) T 6
  refine calD T.d__law_go_round sc_gor (fun vs H Q E h => ?_) (fun f cdv A outer s0 H vs Q E hr h => ?_)
  · obtain ⟨p, v, r, b, c, bb, N, l, rfl, _⟩ := h
    rfl
  obtain ⟨p, v, r, b, c, bb, N, l, rfl, hR, hS, hb, hN, hok, hn, hd, q⟩ := h
  have hu := hu_of hr
  have htu := b.tu
  refine ⟨_, (pss_cons (ps_for PassesOwn.never rfl (pi_range1 rfl T.z_range (pa_cons (pe_op op_add (pe_dget hu (pv 0) pe_str (fun _ _ => rfl)) pe_int) pa_nil)) (pg_name (i := 2) nd rfl (Or.inl rfl))
    (pss_cons (ps_if (pt_cmpR op_eq (pe_ixc ix_tup (pv 1)) pe_str (nomark _)) (pss_cons (ps_asg (pe_c c__law_go_condition hr (by omega) rfl (pa_cons (pv 0) (pa_cons (pe_ixc ix_tup (pv 1)) pa_nil))) (pg_name (i := 3) nd rfl (Or.inl rfl)))
  (pss_one (ps_if (pt_cmpR op_isnotT (pv 3) pe_bl (nomark _)) (pss_one (ps_ret (pe_ifExp (pt_cmpR op_isN (pv 3) pe_non (nomark _)) pe_str pe_str))) pss_nil))) pss_nil)
  (pss_cons (ps_asg (pe_c c__law_go_block hr (by omega) rfl (pa_cons (pv 0) (pa_cons (pe_ix ix_tup (pv 1) (pe_un un_neg pe_int) (fun _ _ => rfl)) pa_nil))) (pg_name (i := 4) nd rfl (Or.inl rfl)))
  (pss_cons (ps_if (pt_cmpR op_in_seq (pv 4) (pe_lst (pa_cons pe_str (pa_cons pe_str pa_nil))) (by rfl)) (pss_one (ps_ret (pv 4))) pss_nil)
  (pss_one (ps_if (pt_cmpR op_eq (pv 4) pe_str (nomark _)) (pss_one (ps_ret pe_str)) pss_nil))))))
  (pss_one (ps_ret pe_str))), ?_⟩
  obtain ⟨ds, h0⟩ := hS.ex
  have bd := h0.b1
  refine ⟨_, rfl, p.a, _, rfl, DGet.k (k := Sum.inr "left") h0.ha, _, _, rfl, rfl, _, rfl, by omega, by omega, ?_⟩
  have hn1 : ((r.left : Int) + 1).toNat = r.left + 1 := by omega
  cases hR with
  | w c bb =>
    rw [Stm.ok] at hok
    rw [Stm.dp] at hn hd
    have cdp := c.dp_parts
    have e0 : goS (.while c bb) r = rounds (goC c) (onBlk bb fun r => goL bb r) (r.left + 1) r := by rw [goS]
    rw [e0] at q
    rw [Stm.enc] at hb htu
    refine for_range (n := ((r.left : Int) + 1).toNat) (fun i σ H' => ∃ v2 v3 v4 r2, σ = [some (.ref p.a), some v, v2, v3, v4] ∧ Kp p.M H H' ∧ StAt K H' p r2 ∧ rounds (goC c) (onBlk bb fun r => goL bb r) (r.left + 1 - i) r2 = rounds (goC c) (onBlk bb fun r => goL bb r) (r.left + 1) r) ⟨_, _, _, r, rfl, Kp.refl, hS, rfl⟩ ?_ ?_
    · rintro i _ H2 hi ⟨v2, v3, v4, r2, rfl, k2, hS2, e2⟩
      rw [hn1] at hi
      obtain ⟨m, em⟩ : ∃ m, r.left + 1 - i = m + 1 := ⟨r.left - i, by omega⟩
      have em' : r.left + 1 - (i + 1) = m := by omega
      rw [em, rounds] at e2
      have hb2 := k2.dpT hS.freet htu hb
      refine ⟨_, rfl, ?_⟩
      refine ixd (i := 0) hb2 rfl fun w hw => ?_
      cases dp_str hw
      refine ⟨rfl, _, rfl, iteT ?_⟩
      refine ⟨_, rfl, _, rfl, ?_⟩
      refine ixd (i := 1) hb2 rfl fun w1 hw1 => ?_
      refine ⟨p, w1, r2, c, rfl, hS2, hw1, by omega, fun H3 k3 hS3 => ?_⟩
      have k13 := k2.trans k3
      generalize goC c r2 = g at e2 hS3 ⊢
      obtain ⟨g1, r3⟩ := g
      cases g1 with
      | none =>
        refine ⟨_, rfl, none, rfl, rfl, _, rfl, iteT ?_⟩
        refine ⟨_, rfl, rfl, _, rfl, iteT ?_⟩
        have := q H3 k13 (by rw [← e2]; exact hS3)
        rw [← e2] at this
        exact this
      | some x =>
        cases x with
        | false =>
          refine ⟨_, rfl, some false, rfl, rfl, _, rfl, iteT ?_⟩
          refine ⟨_, rfl, rfl, _, rfl, iteF ?_⟩
          have := q H3 k13 (by rw [← e2]; exact hS3)
          rw [← e2] at this
          exact this
        | true =>
          refine ⟨_, rfl, some true, rfl, rfl, _, rfl, iteF ?_⟩
          have hb3 := k13.dpT hS.freet htu hb
          obtain ⟨av, xs, rfl, hsq, hA⟩ := dp_tup hb3
          obtain ⟨x0, ws, rfl, _, hA⟩ := dpA_cons hA
          obtain ⟨x1, ws, rfl, _, hA⟩ := dpA_cons hA
          obtain ⟨x2, ws, rfl, hx2, hA⟩ := dpA_cons hA
          cases dpA_nil hA
          refine ⟨_, rfl, _, rfl, _, rfl, av, _, _, _, rfl, rfl, hsq, rfl, ?_⟩
          refine ⟨p, x2, r3, bb, N, true, rfl, hS3, hx2, hN, hok.2.2, by omega, by omega, fun H4 k4 hS4 => ?_⟩
          have k14 := k13.trans k4
          have eg : goB bb r3 = onBlk bb (fun r => goL bb r) r3 := rfl
          rw [eg] at hS4 ⊢
          simp only at e2
          generalize onBlk bb (fun r => goL bb r) r3 = g at e2 hS4 ⊢
          obtain ⟨md, r4⟩ := g
          refine ⟨_, rfl, (by show 2 ≤ sizeLine; decide), fun t ht => ?_⟩
          refine ⟨t, _, rfl, .inl (SqL.of upd_same), rfl, rfl, _, rfl, ?_⟩
          have k15 : Kp p.M H (upd H4 t (.lst [.str "give", .str "cut"])) := k14.trans (Kp.new ht)
          have hS5 := hS4.new (o := .lst [.str "give", .str "cut"]) ht
          cases md with
          | give =>
            have := q _ k15 (by rw [← e2]; exact hS5)
            rw [← e2] at this
            exact iteT ⟨_, rfl, this⟩
          | cut =>
            have := q _ k15 (by rw [← e2]; exact hS5)
            rw [← e2] at this
            exact iteT ⟨_, rfl, this⟩
          | brk =>
            have := q _ k15 (by rw [← e2]; exact hS5)
            rw [← e2] at this
            exact iteF ⟨_, rfl, rfl, _, rfl, iteT this⟩
          | on =>
            exact iteF ⟨_, rfl, rfl, _, rfl, iteF ⟨_, _, _, r4, rfl, k15, hS5, by rw [em']; exact e2⟩⟩
          | nxt =>
            exact iteF ⟨_, rfl, rfl, _, rfl, iteF ⟨_, _, _, r4, rfl, k15, hS5, by rw [em']; exact e2⟩⟩
    · rintro _ H2 ⟨v2, v3, v4, r2, rfl, k2, hS2, e2⟩
      rw [hn1, Nat.sub_self, rounds] at e2
      have := q H2 k2 (by rw [← e2]; exact hS2)
      rw [← e2] at this
      exact this
  | l bb =>
    rw [Stm.ok] at hok
    rw [Stm.dp] at hn hd
    have e0 : goS (.loop bb) r = rounds (fun r => (some true, r)) (onBlk bb fun r => goL bb r) (r.left + 1) r := by rw [goS]
    rw [e0] at q
    rw [Stm.enc] at hb htu
    refine for_range (n := ((r.left : Int) + 1).toNat) (fun i σ H' => ∃ v2 v3 v4 r2, σ = [some (.ref p.a), some v, v2, v3, v4] ∧ Kp p.M H H' ∧ StAt K H' p r2 ∧ rounds (fun r => (some true, r)) (onBlk bb fun r => goL bb r) (r.left + 1 - i) r2 = rounds (fun r => (some true, r)) (onBlk bb fun r => goL bb r) (r.left + 1) r) ⟨_, _, _, r, rfl, Kp.refl, hS, rfl⟩ ?_ ?_
    · rintro i _ H2 hi ⟨v2, v3, v4, r2, rfl, k2, hS2, e2⟩
      rw [hn1] at hi
      obtain ⟨m, em⟩ : ∃ m, r.left + 1 - i = m + 1 := ⟨r.left - i, by omega⟩
      have em' : r.left + 1 - (i + 1) = m := by omega
      rw [em, rounds] at e2
      have hb2 := k2.dpT hS.freet htu hb
      refine ⟨_, rfl, ?_⟩
      refine ixd (i := 0) hb2 rfl fun w hw => ?_
      cases dp_str hw
      refine ⟨rfl, _, rfl, iteF ?_⟩
      obtain ⟨av, xs, rfl, hsq, hA⟩ := dp_tup hb2
      obtain ⟨x0, ws, rfl, _, hA⟩ := dpA_cons hA
      obtain ⟨x2, ws, rfl, hx2, hA⟩ := dpA_cons hA
      cases dpA_nil hA
      refine ⟨_, rfl, _, rfl, _, rfl, av, _, _, _, rfl, rfl, hsq, rfl, ?_⟩
      refine ⟨p, x2, r2, bb, N, true, rfl, hS2, hx2, hN, hok, by omega, by omega, fun H4 k4 hS4 => ?_⟩
      have k14 := k2.trans k4
      have eg : goB bb r2 = onBlk bb (fun r => goL bb r) r2 := rfl
      rw [eg] at hS4 ⊢
      simp only at e2
      generalize onBlk bb (fun r => goL bb r) r2 = g at e2 hS4 ⊢
      obtain ⟨md, r4⟩ := g
      refine ⟨_, rfl, (by show 2 ≤ sizeLine; decide), fun t ht => ?_⟩
      refine ⟨t, _, rfl, .inl (SqL.of upd_same), rfl, rfl, _, rfl, ?_⟩
      have k15 : Kp p.M H (upd H4 t (.lst [.str "give", .str "cut"])) := k14.trans (Kp.new ht)
      have hS5 := hS4.new (o := .lst [.str "give", .str "cut"]) ht
      cases md with
      | give =>
        have := q _ k15 (by rw [← e2]; exact hS5)
        rw [← e2] at this
        exact iteT ⟨_, rfl, this⟩
      | cut =>
        have := q _ k15 (by rw [← e2]; exact hS5)
        rw [← e2] at this
        exact iteT ⟨_, rfl, this⟩
      | brk =>
        have := q _ k15 (by rw [← e2]; exact hS5)
        rw [← e2] at this
        exact iteF ⟨_, rfl, rfl, _, rfl, iteT this⟩
      | on =>
        exact iteF ⟨_, rfl, rfl, _, rfl, iteF ⟨_, _, _, r4, rfl, k15, hS5, by rw [em']; exact e2⟩⟩
      | nxt =>
        exact iteF ⟨_, rfl, rfl, _, rfl, iteF ⟨_, _, _, r4, rfl, k15, hS5, by rw [em']; exact e2⟩⟩
    · rintro _ H2 ⟨v2, v3, v4, r2, rfl, k2, hS2, e2⟩
      rw [hn1, Nat.sub_self, rounds] at e2
      have := q H2 k2 (by rw [← e2]; exact hS2)
      rw [← e2] at this
      exact this
end
end Sv
end
section
set_option Elab.async false
set_option linter.all false
set_option autoImplicit false
set_option maxRecDepth 100000
/-! W12: the law's run: statements; a whole run. -/
namespace Sv
open PySem PySem.Spec PyProof.Rows L2
open C8 (pe_c pe_mt pe_mt0 pe_mk pe_gc)
section
variable {K : PySem.W.Frag} {H H' : Hp} {p : Sa} {r : Rs} {ds : List V} {q : Addr} {o : HO}
theorem StS.setNow (h : StS K H p r ds) (x : Str) (i : Int) (hb : r.env.length + 1 + r.left ≤ 1000) : StAt K (upd H p.nd (.dK (putK (kvs r.env) (Sum.inr x) (.int i)))) p { r with env := En.put r.env x i } := by
  obtain ⟨n1, n2⟩ := h.nedl
  have k : Kp p.M H (upd H p.nd (.dK (putK (kvs r.env) (Sum.inr x) (.int i)))) := Kp.put (by simp)
  refine ⟨ds, ?_, ?_, k.dpTA h.freet (deeds_tu _) h.hA, ?_, h.ne, h.b1, ?_⟩
  · rw [upd_ne h.ne]; exact h.ha
  · rw [upd_ne n2.symm]; exact h.hd
  · unfold NowAt; rw [upd_same, kvs_put]
  · have := put_len r.env x i
    show (En.put r.env x i).length + r.left ≤ 1000
    omega
theorem StS.setVal (h : StS K H p r ds) (i : Int) : StAt K (upd H p.a (.dK (putK (stK p r.left r.val) (Sum.inr "value") (.int i)))) p { r with val := some i } := by
  obtain ⟨n1, n2⟩ := h.nedl
  have k : Kp p.M H (upd H p.a (.dK (putK (stK p r.left r.val) (Sum.inr "value") (.int i)))) := Kp.put (by simp)
  refine ⟨ds, ?_, ?_, k.dpTA h.freet (deeds_tu _) h.hA, ?_, h.ne, h.b1, h.b2⟩
  · rw [upd_same]; rfl
  · rw [upd_ne n1.symm]; exact h.hd
  · unfold NowAt; rw [upd_ne h.ne.symm]; exact h.hn
end
section
variable {P : Program} {w : World} {K : PySem.W.Frag} {mg : Str → Option Value} {base : Heap}
set_option maxHeartbeats 1000000
theorem gos_step (T : Txt K mg) (n : Nat) (c__law_go_block : C8.Cal P w K mg base (10 + 2 * n) "_law_go_block" (spGoB K n) []) (c__law_go_round : C8.Cal P w K mg base (10 + 2 * n + 1) "_law_go_round" (spGoR K (n + 1)) []) : C8.Cal P w K mg base (10 + 2 * n + 1 + 1) "_law_go_statement" (spGoS K (n + 1)) [] := by
  have nd := sc_gos.nd
  have c__law_go_condition := goc_ok (P := P) (w := w) (base := base) T 6
  have c__law_turn := turn_ok (P := P) (w := w) (base := base) T
  have c__law_value_of := vall_ok (P := P) (w := w) (base := base) T
  refine calD T.d__law_go_statement sc_gos (fun vs H Q E h => ?_) (fun f cdv A outer s0 H vs Q E hr h => ?_)
  · obtain ⟨p, v, r, b, N, l, rfl, _⟩ := h
    rfl
  obtain ⟨p, v, r, st, N, l, rfl, hS, hb, hN, hok, hn, hd, q⟩ := h
  have hu := hu_of hr
  have htu := st.tu
  refine ⟨_, (pss_cons (ps_if (pt_cmpR op_eq (pe_ixc ix_tup (pv 1)) pe_str (nomark _)) (pss_cons (ps_asg (pe_c c__law_go_condition hr (by omega) rfl (pa_cons (pv 0) (pa_cons (pe_ixc ix_tup (pv 1)) pa_nil))) (pg_name (i := 2) nd rfl (Or.inl rfl)))
  (pss_cons (ps_if (pt_cmpR op_isN (pv 2) pe_non (nomark _)) (pss_one (ps_ret pe_str)) pss_nil)
  (pss_one (ps_ret (pe_c c__law_go_block hr (by omega) rfl (pa_cons (pv 0) (pa_cons (pe_mid (pe_ifExp (pt_val (pv 2)) (pe_ixc ix_tup (pv 1)) (pe_ixc ix_tup (pv 1)))) pa_nil))))))) pss_nil)
  (pss_cons (ps_if (pt_cmpR op_in_seq (pe_ixc ix_tup (pv 1)) (pe_lst (pa_cons pe_str (pa_cons pe_str pa_nil))) (by rfl)) (pss_one (ps_ret (pe_c c__law_go_round hr (by omega) rfl (pa_cons (pv 0) (pa_cons (pv 1) pa_nil))))) pss_nil)
  (pss_cons (ps_if (pt_not (pt_val (pe_c c__law_turn hr (by omega) rfl (pa_cons (pv 0) (pa_cons (pe_ifExp (pt_cmpR op_in_seq (pe_ixc ix_tup (pv 1)) (pe_lst (pa_cons pe_str (pa_cons pe_str pa_nil))) (by rfl)) (pe_tup (pa_cons pe_str pa_nil)) (pv 1)) pa_nil))))) (pss_one (ps_ret pe_str)) pss_nil)
  (pss_cons (ps_if (pt_cmpR op_eq (pe_ixc ix_tup (pv 1)) pe_str (nomark _)) (pss_cons (ps_asg (pe_dget hu (pv 0) pe_str (fun _ _ => rfl)) (pg_name (i := 3) nd rfl (Or.inl rfl)))
  (pss_one (ps_dput hu (pv 3) (pe_ixc ix_tup (pv 1)) (pe_c c__law_value_of hr (by omega) rfl (pa_cons (pe_ixc ix_tup (pv 1)) (pa_cons (pv 3) pa_nil))) rfl))) pss_nil)
  (pss_cons (ps_if (pt_cmpR op_eq (pe_ixc ix_tup (pv 1)) pe_str (nomark _)) (pss_one (ps_dput hu (pv 0) pe_str (pe_c c__law_value_of hr (by omega) rfl (pa_cons (pe_tup (pa_cons pe_str (pa_cons (pe_ixc ix_tup (pv 1)) pa_nil))) (pa_cons (pe_dget hu (pv 0) pe_str (fun _ _ => rfl)) pa_nil))) rfl)) pss_nil)
  (pss_one (ps_ret (pe_ifExp (pt_cmpR op_in_seq (pe_ixc ix_tup (pv 1)) (pe_lst (pa_cons pe_str (pa_cons pe_str pa_nil))) (by rfl)) pe_str (pe_ixc ix_tup (pv 1)))))))))), ?_⟩
  refine ⟨_, rfl, ?_⟩
  cases st with
  | ifs c b1 b2 =>
    rw [Stm.ok] at hok
    rw [Stm.dp] at hn hd
    have cdp := c.dp_parts
    rw [Stm.enc] at hb htu
    refine ixd (i := 0) hb rfl fun w hw => ?_
    cases dp_str hw
    refine ⟨rfl, _, rfl, iteT ?_⟩
    refine ⟨_, rfl, _, rfl, ?_⟩
    refine ixd (i := 1) hb rfl fun w1 hw1 => ?_
    refine ⟨p, w1, r, c, rfl, hS, hw1, by omega, fun H3 k3 hS3 => ?_⟩
    have hb3 := k3.dpT hS.freet htu hb
    rw [goS] at q
    generalize goC c r = g at q hS3 ⊢
    obtain ⟨g1, r3⟩ := g
    cases g1 with
    | none => exact ⟨_, rfl, rfl, _, rfl, iteT (q H3 k3 hS3)⟩
    | some x =>
      refine ⟨_, rfl, rfl, _, rfl, iteF ?_⟩
      refine ⟨_, rfl, ?_⟩
      cases x with
      | true =>
        refine ⟨fun u H' => Dp K H' u b1.enc ∧ H3 = H', ?_, ?_⟩
        · refine ⟨_, rfl, true, rfl, iteT ?_⟩
          refine ⟨_, rfl, ?_⟩
          exact ixd (i := 2) hb3 rfl fun w2 hw2 => ⟨hw2, rfl⟩
        · rintro u _ ⟨hu2, rfl⟩
          exact ⟨p, u, r3, b1, N, l, rfl, hS3, hu2, hN, hok.2.2.1, by omega, by omega, fun H4 k4 hS4 => q H4 (k3.trans k4) hS4⟩
      | false =>
        refine ⟨fun u H' => Dp K H' u b2.enc ∧ H3 = H', ?_, ?_⟩
        · refine ⟨_, rfl, false, rfl, iteF ?_⟩
          refine ⟨_, rfl, ?_⟩
          exact ixd (i := 3) hb3 rfl fun w2 hw2 => ⟨hw2, rfl⟩
        · rintro u _ ⟨hu2, rfl⟩
          exact ⟨p, u, r3, b2, N, l, rfl, hS3, hu2, hN, hok.2.2.2, by omega, by omega, fun H4 k4 hS4 => q H4 (k3.trans k4) hS4⟩
  | «while» c b =>
    have hb0 := hb
    rw [Stm.enc] at hb
    refine ixd (i := 0) hb rfl fun w hw => ?_
    cases dp_str hw
    refine ⟨rfl, _, rfl, iteF ?_⟩
    refine ⟨_, rfl, ?_⟩
    refine ixd (i := 0) hb rfl fun w hw => ?_
    cases dp_str hw
    refine ⟨(by show 2 ≤ sizeLine; decide), fun t ht => ?_⟩
    refine ⟨t, _, rfl, .inl (SqL.of upd_same), rfl, rfl, _, rfl, iteT ?_⟩
    refine ⟨_, rfl, _, rfl, p, v, r, .while c b, _, _, N, l, rfl, .w c b, hS.new ht, (Kp.new (M := []) ht).dp FreeS.nil hb0, hN, hok, by omega, hd, fun H4 k4 hS4 => q H4 ((Kp.new ht).trans k4) hS4⟩
  | loop b =>
    have hb0 := hb
    rw [Stm.enc] at hb
    refine ixd (i := 0) hb rfl fun w hw => ?_
    cases dp_str hw
    refine ⟨rfl, _, rfl, iteF ?_⟩
    refine ⟨_, rfl, ?_⟩
    refine ixd (i := 0) hb rfl fun w hw => ?_
    cases dp_str hw
    refine ⟨(by show 2 ≤ sizeLine; decide), fun t ht => ?_⟩
    refine ⟨t, _, rfl, .inl (SqL.of upd_same), rfl, rfl, _, rfl, iteT ?_⟩
    refine ⟨_, rfl, _, rfl, p, v, r, .loop b, _, _, N, l, rfl, .l b, hS.new ht, (Kp.new (M := []) ht).dp FreeS.nil hb0, hN, hok, by omega, hd, fun H4 k4 hS4 => q H4 ((Kp.new ht).trans k4) hS4⟩
  | brk =>
    have hb0 := hb
    rw [Stm.enc] at hb htu
    refine ixd (i := 0) hb rfl fun w hw => ?_
    cases dp_str hw
    refine ⟨rfl, _, rfl, iteF ?_⟩
    refine ⟨_, rfl, ?_⟩
    refine ixd (i := 0) hb rfl fun w hw => ?_
    cases dp_str hw
    refine ⟨(by show 2 ≤ sizeLine; decide), fun t ht => ?_⟩
    refine ⟨t, _, rfl, .inl (SqL.of upd_same), rfl, rfl, _, rfl, iteF ?_⟩
    have hb1 := (Kp.new (M := []) (o := .lst [V.str "while", .str "loop"]) ht).dp FreeS.nil hb
    have hS1 := hS.new (o := .lst [V.str "while", .str "loop"]) ht
    have k1 : Kp p.M H (upd H t (.lst [V.str "while", .str "loop"])) := Kp.new ht
    generalize upd H t (.lst [V.str "while", .str "loop"]) = H1 at *
    refine ⟨_, rfl, _, rfl, ?_⟩
    refine ixd (i := 0) hb1 rfl fun w hw => ?_
    cases dp_str hw
    refine ⟨(by show 2 ≤ sizeLine; decide), fun t2 ht2 => ?_⟩
    refine ⟨t2, _, rfl, .inl (SqL.of upd_same), rfl, rfl, _, rfl, iteT ?_⟩
    have hb2 := (Kp.new (M := []) (o := .lst [V.str "break", .str "next"]) ht2).dp FreeS.nil hb1
    have hS2 := hS1.new (o := .lst [V.str "break", .str "next"]) ht2
    have k2 : Kp p.M H (upd H1 t2 (.lst [V.str "break", .str "next"])) := k1.trans (Kp.new ht2)
    generalize upd H1 t2 (.lst [V.str "break", .str "next"]) = H2 at *
    refine ⟨(by show 1 ≤ sizeLine; decide), fun a ha => ?_⟩
    have d1 : Dp K (upd H2 a (.tup [.str "skip"])) (.ref a) Deed.skip.enc := dp_new upd_same (.cons (.str _) .nil)
    have kA : Kp [] H2 (upd H2 a (.tup [.str "skip"])) := Kp.new ha
    refine ⟨p, .ref a, r, _, rfl, (hS2.new ha), d1, fun H3 k3 hS3 => ?_⟩
    have k13 : Kp p.M H H3 := k2.trans (kA.all.trans k3)
    have hb3 := k13.dpT hS.freet htu hb
    by_cases z : r.left = 0
    · rw [turn_no z] at hS3 ⊢
      have e : goS (.brk) r = (.cut, r) := by
        rw [goS]
        first
          | rw [turn_no z]
          | rw [plainM, turn_no z]
      rw [e] at q
      exact ⟨_, rfl, iteT (q H3 k13 hS3)⟩
    · rw [turn_yes z] at hS3 ⊢
      refine ⟨_, rfl, iteF ?_⟩
      have e : goS (.brk) r = (.brk, { r with left := r.left - 1, deeds := r.deeds ++ [.skip] }) := by rw [goS, plainM, turn_yes z]
      rw [e] at q
      refine ⟨_, rfl, ?_⟩
      refine ixd (i := 0) hb3 rfl fun w hw => ?_
      cases dp_str hw
      refine ⟨rfl, _, rfl, iteF ?_⟩
      refine ⟨_, rfl, ?_⟩
      refine ixd (i := 0) hb3 rfl fun w hw => ?_
      cases dp_str hw
      refine ⟨rfl, _, rfl, iteF ?_⟩
      refine ⟨_, rfl, ?_⟩
      refine ixd (i := 0) hb3 rfl fun w hw => ?_
      cases dp_str hw
      refine ⟨(by show 2 ≤ sizeLine; decide), fun t5 ht5 => ?_⟩
      refine ⟨t5, _, rfl, .inl (SqL.of upd_same), rfl, rfl, _, rfl, iteF ?_⟩
      refine ⟨_, rfl, ?_⟩
      refine ixd (i := 0) ((Kp.new (M := []) ht5).dp FreeS.nil hb3) rfl fun w hw => ?_
      cases dp_str hw
      exact q _ (k13.trans (Kp.new ht5)) (hS3.new ht5)
  | nxt =>
    have hb0 := hb
    rw [Stm.enc] at hb htu
    refine ixd (i := 0) hb rfl fun w hw => ?_
    cases dp_str hw
    refine ⟨rfl, _, rfl, iteF ?_⟩
    refine ⟨_, rfl, ?_⟩
    refine ixd (i := 0) hb rfl fun w hw => ?_
    cases dp_str hw
    refine ⟨(by show 2 ≤ sizeLine; decide), fun t ht => ?_⟩
    refine ⟨t, _, rfl, .inl (SqL.of upd_same), rfl, rfl, _, rfl, iteF ?_⟩
    have hb1 := (Kp.new (M := []) (o := .lst [V.str "while", .str "loop"]) ht).dp FreeS.nil hb
    have hS1 := hS.new (o := .lst [V.str "while", .str "loop"]) ht
    have k1 : Kp p.M H (upd H t (.lst [V.str "while", .str "loop"])) := Kp.new ht
    generalize upd H t (.lst [V.str "while", .str "loop"]) = H1 at *
    refine ⟨_, rfl, _, rfl, ?_⟩
    refine ixd (i := 0) hb1 rfl fun w hw => ?_
    cases dp_str hw
    refine ⟨(by show 2 ≤ sizeLine; decide), fun t2 ht2 => ?_⟩
    refine ⟨t2, _, rfl, .inl (SqL.of upd_same), rfl, rfl, _, rfl, iteT ?_⟩
    have hb2 := (Kp.new (M := []) (o := .lst [V.str "break", .str "next"]) ht2).dp FreeS.nil hb1
    have hS2 := hS1.new (o := .lst [V.str "break", .str "next"]) ht2
    have k2 : Kp p.M H (upd H1 t2 (.lst [V.str "break", .str "next"])) := k1.trans (Kp.new ht2)
    generalize upd H1 t2 (.lst [V.str "break", .str "next"]) = H2 at *
    refine ⟨(by show 1 ≤ sizeLine; decide), fun a ha => ?_⟩
    have d1 : Dp K (upd H2 a (.tup [.str "skip"])) (.ref a) Deed.skip.enc := dp_new upd_same (.cons (.str _) .nil)
    have kA : Kp [] H2 (upd H2 a (.tup [.str "skip"])) := Kp.new ha
    refine ⟨p, .ref a, r, _, rfl, (hS2.new ha), d1, fun H3 k3 hS3 => ?_⟩
    have k13 : Kp p.M H H3 := k2.trans (kA.all.trans k3)
    have hb3 := k13.dpT hS.freet htu hb
    by_cases z : r.left = 0
    · rw [turn_no z] at hS3 ⊢
      have e : goS (.nxt) r = (.cut, r) := by
        rw [goS]
        first
          | rw [turn_no z]
          | rw [plainM, turn_no z]
      rw [e] at q
      exact ⟨_, rfl, iteT (q H3 k13 hS3)⟩
    · rw [turn_yes z] at hS3 ⊢
      refine ⟨_, rfl, iteF ?_⟩
      have e : goS (.nxt) r = (.nxt, { r with left := r.left - 1, deeds := r.deeds ++ [.skip] }) := by rw [goS, plainM, turn_yes z]
      rw [e] at q
      refine ⟨_, rfl, ?_⟩
      refine ixd (i := 0) hb3 rfl fun w hw => ?_
      cases dp_str hw
      refine ⟨rfl, _, rfl, iteF ?_⟩
      refine ⟨_, rfl, ?_⟩
      refine ixd (i := 0) hb3 rfl fun w hw => ?_
      cases dp_str hw
      refine ⟨rfl, _, rfl, iteF ?_⟩
      refine ⟨_, rfl, ?_⟩
      refine ixd (i := 0) hb3 rfl fun w hw => ?_
      cases dp_str hw
      refine ⟨(by show 2 ≤ sizeLine; decide), fun t5 ht5 => ?_⟩
      refine ⟨t5, _, rfl, .inl (SqL.of upd_same), rfl, rfl, _, rfl, iteF ?_⟩
      refine ⟨_, rfl, ?_⟩
      refine ixd (i := 0) ((Kp.new (M := []) ht5).dp FreeS.nil hb3) rfl fun w hw => ?_
      cases dp_str hw
      exact q _ (k13.trans (Kp.new ht5)) (hS3.new ht5)
  | skip =>
    have hb0 := hb
    rw [Stm.enc] at hb htu
    refine ixd (i := 0) hb rfl fun w hw => ?_
    cases dp_str hw
    refine ⟨rfl, _, rfl, iteF ?_⟩
    refine ⟨_, rfl, ?_⟩
    refine ixd (i := 0) hb rfl fun w hw => ?_
    cases dp_str hw
    refine ⟨(by show 2 ≤ sizeLine; decide), fun t ht => ?_⟩
    refine ⟨t, _, rfl, .inl (SqL.of upd_same), rfl, rfl, _, rfl, iteF ?_⟩
    have hb1 := (Kp.new (M := []) (o := .lst [V.str "while", .str "loop"]) ht).dp FreeS.nil hb
    have hS1 := hS.new (o := .lst [V.str "while", .str "loop"]) ht
    have k1 : Kp p.M H (upd H t (.lst [V.str "while", .str "loop"])) := Kp.new ht
    generalize upd H t (.lst [V.str "while", .str "loop"]) = H1 at *
    refine ⟨_, rfl, _, rfl, ?_⟩
    refine ixd (i := 0) hb1 rfl fun w hw => ?_
    cases dp_str hw
    refine ⟨(by show 2 ≤ sizeLine; decide), fun t2 ht2 => ?_⟩
    refine ⟨t2, _, rfl, .inl (SqL.of upd_same), rfl, rfl, _, rfl, iteF ?_⟩
    have hb2 := (Kp.new (M := []) (o := .lst [V.str "break", .str "next"]) ht2).dp FreeS.nil hb1
    have hS2 := hS1.new (o := .lst [V.str "break", .str "next"]) ht2
    have k2 : Kp p.M H (upd H1 t2 (.lst [V.str "break", .str "next"])) := k1.trans (Kp.new ht2)
    generalize upd H1 t2 (.lst [V.str "break", .str "next"]) = H2 at *
    have d1 : Dp K H2 v (.skip : Deed).enc := hb2
    have kA : Kp [] H2 H2 := Kp.refl
    refine ⟨_, rfl, ?_⟩
    refine ⟨p, v, r, _, rfl, hS2, d1, fun H3 k3 hS3 => ?_⟩
    have k13 : Kp p.M H H3 := k2.trans (kA.all.trans k3)
    have hb3 := k13.dpT hS.freet htu hb
    by_cases z : r.left = 0
    · rw [turn_no z] at hS3 ⊢
      have e : goS (.skip) r = (.cut, r) := by
        rw [goS]
        first
          | rw [turn_no z]
          | rw [plainM, turn_no z]
      rw [e] at q
      exact ⟨_, rfl, iteT (q H3 k13 hS3)⟩
    · rw [turn_yes z] at hS3 ⊢
      refine ⟨_, rfl, iteF ?_⟩
      have e : goS (.skip) r = (.on, { r with left := r.left - 1, deeds := r.deeds ++ [.skip] }) := by rw [goS, plainM, turn_yes z]
      rw [e] at q
      refine ⟨_, rfl, ?_⟩
      refine ixd (i := 0) hb3 rfl fun w hw => ?_
      cases dp_str hw
      refine ⟨rfl, _, rfl, iteF ?_⟩
      refine ⟨_, rfl, ?_⟩
      refine ixd (i := 0) hb3 rfl fun w hw => ?_
      cases dp_str hw
      refine ⟨rfl, _, rfl, iteF ?_⟩
      refine ⟨_, rfl, ?_⟩
      refine ixd (i := 0) hb3 rfl fun w hw => ?_
      cases dp_str hw
      refine ⟨(by show 2 ≤ sizeLine; decide), fun t5 ht5 => ?_⟩
      refine ⟨t5, _, rfl, .inl (SqL.of upd_same), rfl, rfl, _, rfl, iteT ?_⟩
      exact q _ (k13.trans (Kp.new ht5)) (hS3.new ht5)
  | set x u =>
    have hb0 := hb
    rw [Stm.enc] at hb htu
    refine ixd (i := 0) hb rfl fun w hw => ?_
    cases dp_str hw
    refine ⟨rfl, _, rfl, iteF ?_⟩
    refine ⟨_, rfl, ?_⟩
    refine ixd (i := 0) hb rfl fun w hw => ?_
    cases dp_str hw
    refine ⟨(by show 2 ≤ sizeLine; decide), fun t ht => ?_⟩
    refine ⟨t, _, rfl, .inl (SqL.of upd_same), rfl, rfl, _, rfl, iteF ?_⟩
    have hb1 := (Kp.new (M := []) (o := .lst [V.str "while", .str "loop"]) ht).dp FreeS.nil hb
    have hS1 := hS.new (o := .lst [V.str "while", .str "loop"]) ht
    have k1 : Kp p.M H (upd H t (.lst [V.str "while", .str "loop"])) := Kp.new ht
    generalize upd H t (.lst [V.str "while", .str "loop"]) = H1 at *
    refine ⟨_, rfl, _, rfl, ?_⟩
    refine ixd (i := 0) hb1 rfl fun w hw => ?_
    cases dp_str hw
    refine ⟨(by show 2 ≤ sizeLine; decide), fun t2 ht2 => ?_⟩
    refine ⟨t2, _, rfl, .inl (SqL.of upd_same), rfl, rfl, _, rfl, iteF ?_⟩
    have hb2 := (Kp.new (M := []) (o := .lst [V.str "break", .str "next"]) ht2).dp FreeS.nil hb1
    have hS2 := hS1.new (o := .lst [V.str "break", .str "next"]) ht2
    have k2 : Kp p.M H (upd H1 t2 (.lst [V.str "break", .str "next"])) := k1.trans (Kp.new ht2)
    generalize upd H1 t2 (.lst [V.str "break", .str "next"]) = H2 at *
    have d1 : Dp K H2 v (.set x u : Deed).enc := hb2
    have kA : Kp [] H2 H2 := Kp.refl
    refine ⟨_, rfl, ?_⟩
    refine ⟨p, v, r, _, rfl, hS2, d1, fun H3 k3 hS3 => ?_⟩
    have k13 : Kp p.M H H3 := k2.trans (kA.all.trans k3)
    have hb3 := k13.dpT hS.freet htu hb
    by_cases z : r.left = 0
    · rw [turn_no z] at hS3 ⊢
      have e : goS (.set x u) r = (.cut, r) := by
        rw [goS]
        first
          | rw [turn_no z]
          | rw [plainM, turn_no z]
      rw [e] at q
      exact ⟨_, rfl, iteT (q H3 k13 hS3)⟩
    · rw [turn_yes z] at hS3 ⊢
      refine ⟨_, rfl, iteF ?_⟩
      have e : goS (.set x u) r = (.on, { left := r.left - 1, deeds := r.deeds ++ [.set x u], env := En.put r.env x (u.eval r.env), val := r.val }) := by rw [goS, turn_yes z]
      rw [e] at q
      rw [Stm.ok] at hok
      refine ⟨_, rfl, ?_⟩
      refine ixd (i := 0) hb3 rfl fun w hw => ?_
      cases dp_str hw
      refine ⟨rfl, _, rfl, iteT ?_⟩
      obtain ⟨ds, h3⟩ := hS3.ex
      refine ⟨_, rfl, p.a, _, rfl, DGet.k (k := Sum.inr "now") h3.ha, ?_⟩
      refine ⟨_, rfl, ?_⟩
      refine ixd (i := 2) hb3 rfl fun w2 hw2 => ?_
      refine ⟨_, rfl, w2, p.nd, u, N, r.env, rfl, hw2, hok.2, h3.hn, fun H4 k4 => ?_⟩
      have h4 := h3.kp0 k4
      have hb4 := k4.dp FreeS.nil hb3
      obtain ⟨ds0, h0⟩ := hS.ex
      have b2 := h0.b2
      refine ⟨_, rfl, _, rfl, ?_⟩
      refine ixd (i := 1) hb4 rfl fun w3 hw3 => ?_
      cases dp_str hw3
      refine ⟨p.nd, _, rfl, DPut.k (k := Sum.inr x) h4.hn (sm' (by show (kvs r.env).length < 100000; unfold kvs; rw [List.length_map]; omega)), ?_⟩
      have hS5 := h4.setNow x (u.eval r.env) (by show r.env.length + 1 + (r.left - 1) ≤ 1000; omega)
      have k5 : Kp p.M H4 (upd H4 p.nd (.dK (putK (kvs r.env) (Sum.inr x) (.int (u.eval r.env))))) := Kp.put (by simp)
      have k15 : Kp p.M H (upd H4 p.nd (.dK (putK (kvs r.env) (Sum.inr x) (.int (u.eval r.env))))) := k13.trans (k4.all.trans k5)
      have hb5 := k15.dpT hS.freet htu hb
      refine ⟨_, rfl, ?_⟩
      refine ixd (i := 0) hb5 rfl fun w hw => ?_
      cases dp_str hw
      refine ⟨rfl, _, rfl, iteF ?_⟩
      refine ⟨_, rfl, ?_⟩
      refine ixd (i := 0) hb5 rfl fun w hw => ?_
      cases dp_str hw
      refine ⟨(by show 2 ≤ sizeLine; decide), fun t5 ht5 => ?_⟩
      refine ⟨t5, _, rfl, .inl (SqL.of upd_same), rfl, rfl, _, rfl, iteT ?_⟩
      exact q _ (k15.trans (Kp.new ht5)) (hS5.new ht5)
  | give u =>
    have hb0 := hb
    rw [Stm.enc] at hb htu
    refine ixd (i := 0) hb rfl fun w hw => ?_
    cases dp_str hw
    refine ⟨rfl, _, rfl, iteF ?_⟩
    refine ⟨_, rfl, ?_⟩
    refine ixd (i := 0) hb rfl fun w hw => ?_
    cases dp_str hw
    refine ⟨(by show 2 ≤ sizeLine; decide), fun t ht => ?_⟩
    refine ⟨t, _, rfl, .inl (SqL.of upd_same), rfl, rfl, _, rfl, iteF ?_⟩
    have hb1 := (Kp.new (M := []) (o := .lst [V.str "while", .str "loop"]) ht).dp FreeS.nil hb
    have hS1 := hS.new (o := .lst [V.str "while", .str "loop"]) ht
    have k1 : Kp p.M H (upd H t (.lst [V.str "while", .str "loop"])) := Kp.new ht
    generalize upd H t (.lst [V.str "while", .str "loop"]) = H1 at *
    refine ⟨_, rfl, _, rfl, ?_⟩
    refine ixd (i := 0) hb1 rfl fun w hw => ?_
    cases dp_str hw
    refine ⟨(by show 2 ≤ sizeLine; decide), fun t2 ht2 => ?_⟩
    refine ⟨t2, _, rfl, .inl (SqL.of upd_same), rfl, rfl, _, rfl, iteF ?_⟩
    have hb2 := (Kp.new (M := []) (o := .lst [V.str "break", .str "next"]) ht2).dp FreeS.nil hb1
    have hS2 := hS1.new (o := .lst [V.str "break", .str "next"]) ht2
    have k2 : Kp p.M H (upd H1 t2 (.lst [V.str "break", .str "next"])) := k1.trans (Kp.new ht2)
    generalize upd H1 t2 (.lst [V.str "break", .str "next"]) = H2 at *
    have d1 : Dp K H2 v (.give u : Deed).enc := hb2
    have kA : Kp [] H2 H2 := Kp.refl
    refine ⟨_, rfl, ?_⟩
    refine ⟨p, v, r, _, rfl, hS2, d1, fun H3 k3 hS3 => ?_⟩
    have k13 : Kp p.M H H3 := k2.trans (kA.all.trans k3)
    have hb3 := k13.dpT hS.freet htu hb
    by_cases z : r.left = 0
    · rw [turn_no z] at hS3 ⊢
      have e : goS (.give u) r = (.cut, r) := by
        rw [goS]
        first
          | rw [turn_no z]
          | rw [plainM, turn_no z]
      rw [e] at q
      exact ⟨_, rfl, iteT (q H3 k13 hS3)⟩
    · rw [turn_yes z] at hS3 ⊢
      refine ⟨_, rfl, iteF ?_⟩
      have e : goS (.give u) r = (.give, { left := r.left - 1, deeds := r.deeds ++ [.give u], env := r.env, val := some (u.val r.env) }) := by rw [goS, turn_yes z]
      rw [e] at q
      rw [Stm.ok] at hok
      refine ⟨_, rfl, ?_⟩
      refine ixd (i := 0) hb3 rfl fun w hw => ?_
      cases dp_str hw
      refine ⟨rfl, _, rfl, iteF ?_⟩
      refine ⟨_, rfl, ?_⟩
      refine ixd (i := 0) hb3 rfl fun w hw => ?_
      cases dp_str hw
      refine ⟨rfl, _, rfl, iteT ?_⟩
      obtain ⟨ds, h3⟩ := hS3.ex
      refine ⟨_, rfl, ?_⟩
      refine ixd (i := 1) hb3 rfl fun w2 hw2 => ?_
      refine ⟨(by show 2 ≤ sizeLine; decide), fun a2 ha2 => ?_⟩
      have dv : Dp K (upd H3 a2 (.tup [.str "as", w2])) (.ref a2) (Val.as u).enc := dp_new upd_same (.cons (.str _) (.cons ((Kp.new (M := []) ha2).dp FreeS.nil hw2) .nil))
      have h3' := h3.kp0 (Kp.new (o := .tup [.str "as", w2]) ha2)
      refine ⟨_, rfl, p.a, _, rfl, DGet.k (k := Sum.inr "now") h3'.ha, ?_⟩
      refine ⟨.ref a2, p.nd, .as u, N, r.env, rfl, dv, hok, h3'.hn, fun H4 k4 => ?_⟩
      have h4 := h3'.kp0 k4
      refine ⟨_, rfl, p.a, _, rfl, DPut.k (k := Sum.inr "value") h4.ha stK_len, ?_⟩
      have hS5 := h4.setVal (u.val r.env)
      have k5 : Kp p.M H4 (upd H4 p.a (.dK (putK (stK p (r.left - 1) r.val) (Sum.inr "value") (.int (u.val r.env))))) := Kp.put (by simp)
      have k15 : Kp p.M H (upd H4 p.a (.dK (putK (stK p (r.left - 1) r.val) (Sum.inr "value") (.int (u.val r.env))))) := k13.trans ((Kp.new ha2).trans (k4.all.trans k5))
      have hb5 := k15.dpT hS.freet htu hb
      refine ⟨_, rfl, ?_⟩
      refine ixd (i := 0) hb5 rfl fun w hw => ?_
      cases dp_str hw
      refine ⟨(by show 2 ≤ sizeLine; decide), fun t5 ht5 => ?_⟩
      refine ⟨t5, _, rfl, .inl (SqL.of upd_same), rfl, rfl, _, rfl, iteF ?_⟩
      refine ⟨_, rfl, ?_⟩
      refine ixd (i := 0) ((Kp.new (M := []) ht5).dp FreeS.nil hb5) rfl fun w hw => ?_
      cases dp_str hw
      exact q _ (k15.trans (Kp.new ht5)) (hS5.new ht5)
end
end Sv
end
section
set_option Elab.async false
set_option linter.all false
set_option autoImplicit false
set_option maxRecDepth 100000
/-! W13: the law's whole run. -/
namespace Sv
open PySem PySem.Spec PyProof.Rows L2
open C8 (pe_c pe_mt pe_mt0 pe_mk pe_gc)
theorem pg_tupK {X : Cx} {K : PySem.W.Frag} {es : List Expr} {k : Nat} {t : TGs} {n : Nat} {pos : Pos} (hK : X.K = K) (hc : X.calm = true) (h : PGs X es t)
    (hn : (assignEach es X.env).length = n := by rfl) (hst : (assignEach es X.env).findIdx? (·.1) = none := by rfl) : PG X (.Tuple es k pos) (gTup K n t) := by
  subst hK
  exact pg_tup hc h hn hst
theorem walk_zipT {K : PySem.W.Frag} {a b : Addr} {xs ys : List V} {n : Nat} (hn : n = min xs.length ys.length) : Walk (RZ.ItzT K a b) n (fun H => SqT K H a xs ∧ SqT K H b ys) (YPair (fun i => xs[i]?) (fun i => ys[i]?)) := by
  subst hn
  refine ⟨fun i _ hi q => ?_, fun _ q => ⟨xs, ys, q.1, q.2, by omega⟩, fun i H v H' _ q y => ?_⟩
  · have h1 : i < xs.length := by omega
    have h2 : i < ys.length := by omega
    exact ⟨xs, ys, xs[i], ys[i], q.1, q.2, by simp [h1], by simp [h2]⟩
  · obtain ⟨T, x, z, h1, h2, h3, h4, h5⟩ := y
    exact ⟨T, x, z, h1, h2, h3, h4 xs q.1, h5 ys q.2⟩
def env0 (prs : En) : En := prs.foldl (fun e p => En.put e p.1 p.2) []
theorem merge_kvs : ∀ (prs : En) (e : En), mergeK (kvs e) (kvs prs) = kvs (prs.foldl (fun e p => En.put e p.1 p.2) e)
  | [], e => rfl
  | p :: r, e => by
    show mergeK (putK (kvs e) (Sum.inr p.1) (.int p.2)) (kvs r) = _
    rw [kvs_put, merge_kvs r (En.put e p.1 p.2)]
    rfl
theorem foldl_put_len : ∀ (prs : En) (e : En), (prs.foldl (fun e p => En.put e p.1 p.2) e).length ≤ e.length + prs.length
  | [], e => Nat.le_refl _
  | p :: r, e => by
    have h1 := foldl_put_len r (En.put e p.1 p.2)
    have h2 := put_len e p.1 p.2
    show (r.foldl _ (En.put e p.1 p.2)).length ≤ e.length + (r.length + 1)
    omega
def intsD (is : List Int) : PyData := .tuple (is.map PyData.int)
/-- what holds of the pairs' list -/
structure PrAt (K : PySem.W.Frag) (H : Hp) (l : Addr) (prs : En) : Prop where
  ex : ∃ ps : List Addr, H l = some (.lst (ps.map V.ref)) ∧ Paired (fun p kv => SqT K H p [kV kv.1, kv.2]) ps (kvs prs)
def spPairs (K : PySem.W.Frag) : Sp := fun vs H Q _ => ∃ (v u : V) (N : List Str) (k : Nat) (b : Blk) (is : List Int), vs = [v, u] ∧ Dp K H v (prEnc N k b) ∧ Dp K H u (intsD is) ∧ is.length = (N.take k).length ∧ is.length ≤ 3 ∧
  ∀ (l : Addr) H', Kp [] H H' → PrAt K H' l ((N.take k).zip is) → Q (.ref l) H'
def spRun (K : PySem.W.Frag) : Sp := fun vs H Q _ => ∃ (v u : V) (N : List Str) (k : Nat) (b : Blk) (is : List Int) (turns : Nat), vs = [v, u, .int (turns : Nat)] ∧ PrOk N k b ∧ Dp K H v (prEnc N k b) ∧ Dp K H u (intsD is) ∧ is.length = (N.take k).length ∧ turns ≤ 500 ∧
  ∀ (p : Sa) H', Kp [] H H' → H p.a = none → H p.dl = none → StAt K H' p (runOf b (env0 ((N.take k).zip is)) turns) → Q (.ref p.a) H'
theorem sc_pairs : FnScope ["_law_told", "_law_inputs_here", "_law_name", "_law_number"] ["_law_told", "_law_inputs_here"] (C8.fnScope (topS 83)) := C8.fnScope_by (by decide +kernel)
theorem sc_run : FnScope ["_law_told", "_law_inputs_here", "_law_turns", "_law_state"] ["_law_told", "_law_inputs_here", "_law_turns"] (C8.fnScope (topS 89)) := C8.fnScope_by (by decide +kernel)
theorem paired_mono {α β : Type} {F G : α → β → Prop} (h : ∀ a b, F a b → G a b) : ∀ {l : List α} {m : List β}, Paired F l m → Paired G l m
  | _, _, .nil => .nil
  | _, _, .cons a t => .cons (h _ _ a) (paired_mono h t)
theorem paired_snoc {α β : Type} {F : α → β → Prop} {a : α} {b : β} (h : F a b) : ∀ {l : List α} {m : List β}, Paired F l m → Paired F (l ++ [a]) (m ++ [b])
  | _, _, .nil => .cons h .nil
  | _, _, .cons x t => .cons x (paired_snoc h t)
section
variable {P : Program} {w : World} {K : PySem.W.Frag} {mg : Str → Option Value} {base : Heap}
set_option maxHeartbeats 1000000
theorem go_ok (T : Txt K mg) : ∀ n, C8.Cal P w K mg base (10 + 2 * n) "_law_go_statement" (spGoS K n) [] ∧ C8.Cal P w K mg base (10 + 2 * n) "_law_go_block" (spGoB K n) []
  | 0 => ⟨calVac T.d__law_go_statement fun vs H Q E h => by
      obtain ⟨p, v, r, b, N, l, _, _, _, _, _, hd, _⟩ := h
      exact absurd hd (Nat.not_lt_zero _), calVac T.d__law_go_block fun vs H Q E h => by
      obtain ⟨p, v, r, b, N, l, _, _, _, _, _, hd, _⟩ := h
      exact absurd hd (Nat.not_lt_zero _)⟩
  | n + 1 => ⟨gos_step T n (go_ok T n).2 (gor_step T n (go_ok T n).2), gob_step T n (go_ok T n).1⟩
theorem pairs_ok (T : Txt K mg) : C8.Cal P w K mg base 1 "_law_pairs" (spPairs K) [] := by
  have nd := sc_pairs.nd
  refine calD T.d__law_pairs sc_pairs (fun vs H Q E h => ?_) (fun f cdv A outer s0 H vs Q E hr h => ?_)
  · obtain ⟨v, u, N, k, b, is, rfl, _⟩ := h
    rfl
  obtain ⟨v, u, N, k, b, is, rfl, hv, hi, hlen, h3, q⟩ := h
  have hu := hu_of hr
  refine ⟨_, (pss_one (ps_ret (pe_lc (own := [("_law_name", 2), ("_law_number", 3)]) rfl nd (RZ.pi_zipA rfl T.z_zip (pa_cons (pe_ixc ix_tup (pv 0)) (pa_cons (pv 1) pa_nil))) (blkOk_by (N := ["_law_told", "_law_inputs_here", "_law_name", "_law_number"]) (sc := C8.fnScope (topS 83)) (by decide +kernel)) (fun _ _ _ _ _ => (pg_tupK (K := K) (n := 2) rfl rfl (pgs_cons (pg_name (i := 2) nd rfl (Or.inl rfl) (.inr rfl)) (pgs_cons (pg_name (i := 3) nd rfl (Or.inl rfl) (.inr rfl)) pgs_nil)))) (fun _ _ _ _ _ => pts_nil) (fun _ _ _ _ _ => (pe_tup (pa_cons (pv 2) (pa_cons (pv 3) pa_nil))))))), ?_⟩
  refine ⟨_, rfl, ?_⟩
  refine ixd (i := 0) hv rfl fun w hw => ?_
  obtain ⟨a, xs, rfl, hSa, hA⟩ := dp_tup hw
  obtain ⟨c, ys, rfl, hSc, hC⟩ := dp_tup hi
  refine ⟨_, rfl, a, c, xs, ys, rfl, .inr ⟨hSa, hSc, fun D hD => ?_⟩⟩
  have xl := dpA_len hA
  have yl := dpA_len hC
  rw [List.length_map] at xl yl
  refine lc_it (walk_zipT (n := is.length) (xs := xs) (ys := ys) (by omega)) (fun i H' => Kp [] H H' ∧ ∃ ps : List Addr, H' D = some (.lst (ps.map V.ref)) ∧ Paired (fun p kv => SqT K H' p [kV kv.1, kv.2]) ps (kvs (((N.take k).zip is).take i))) ⟨Kp.new hD, [], upd_same, .nil⟩ (fun i H' _ ⟨k, _⟩ => ⟨k.sqT FreeS.nil.t hSa, k.sqT FreeS.nil.t hSc⟩) ?_ ?_
  · rintro i x H1 H2 hi ⟨k1, ps, hD1, hps⟩ ⟨Tt, x0, y0, rfl, hT, rfl, hx, hy⟩
    obtain ⟨x1, hx1, hd1⟩ := dpA_map hA hx
    obtain ⟨y1, hy1, hd2⟩ := dpA_map hC hy
    cases dp_str hd1
    cases dp_int hd2
    refine ⟨Tt, _, rfl, SqT.of upd_same, rfl, _, _, rfl, _, _, rfl, rfl, rfl, ?_⟩
    refine ⟨_, rfl, _, rfl, (by show 2 ≤ sizeLine; decide), fun z hz => ?_⟩
    have kT : Kp [] H1 (upd (upd H1 Tt (.tup [.str x1, .int y1])) z (.tup [.str x1, .int y1])) := (Kp.new hT).trans (Kp.new hz)
    have D2 := kT.at hD1 (by simp)
    have pl := Paired.length hps
    have zl : (kvs (((N.take k).zip is).take i)).length ≤ 3 := by
      unfold kvs
      rw [List.length_map, List.length_take, List.length_zip]
      omega
    refine ⟨_, D2, sm' (by rw [List.length_map]; omega), fun e g he hg => ?_, ps ++ [z], ?_, ?_⟩
    · rw [upd_ne (ne_of_none hg hD)]
      exact kT _ _ he (k1 _ _ he hg)
    · rw [upd_same, List.map_append]
      rfl
    · have kD : Kp [D] (upd (upd H1 Tt (.tup [.str x1, .int y1])) z (.tup [.str x1, .int y1])) (upd (upd (upd H1 Tt (.tup [.str x1, .int y1])) z (.tup [.str x1, .int y1])) D (.lst (ps.map V.ref ++ [.ref z]))) := Kp.put (by simp)
      have fD : FreeT [D] (upd (upd H1 Tt (.tup [.str x1, .int y1])) z (.tup [.str x1, .int y1])) := fun b hb => by rw [List.mem_singleton] at hb; rw [hb, D2]; rfl
      have e1 : ((N.take k).zip is).take (i + 1) = ((N.take k).zip is).take i ++ [(x1, y1)] := by
        rw [List.take_add_one, (List.getElem?_zip_eq_some (z := (x1, y1))).mpr ⟨hx1, hy1⟩]
        rfl
      have e2 : kvs (((N.take k).zip is).take (i + 1)) = kvs (((N.take k).zip is).take i) ++ [(Sum.inr x1, .int y1)] := by
        rw [e1]
        unfold kvs
        rw [List.map_append]
        rfl
      rw [e2]
      refine paired_snoc (F := fun (p : Addr) (kv : Key × V) => SqT K (upd (upd (upd H1 Tt (.tup [.str x1, .int y1])) z (.tup [.str x1, .int y1])) D (.lst (ps.map V.ref ++ [.ref z]))) p [kV kv.1, kv.2]) ?_ ?_
      · exact kD.sqT fD (SqT.of upd_same)
      · exact paired_mono (F := fun (p : Addr) (kv : Key × V) => SqT K H1 p [kV kv.1, kv.2]) (fun p kv h => kD.sqT fD (kT.sqT FreeS.nil.t h)) hps
  · rintro H1 ⟨k1, ps, hD1, hps⟩
    rw [List.take_of_length_le (by rw [List.length_zip]; omega)] at hps
    exact q D H1 k1 ⟨ps, hD1, hps⟩
theorem run_law (T : Txt K mg) : C8.Cal P w K mg base 48 "_law_run" (spRun K) [] := by
  have nd := sc_run.nd
  have c__law_pairs := pairs_ok (P := P) (w := w) (base := base) T
  have c__law_turn := turn_ok (P := P) (w := w) (base := base) T
  have c__law_go_block := (go_ok (P := P) (w := w) (base := base) T 18).2
  refine calD T.d__law_run sc_run (fun vs H Q E h => ?_) (fun f cdv A outer s0 H vs Q E hr h => ?_)
  · obtain ⟨v, u, N, k, b, is, turns, rfl, _⟩ := h
    rfl
  obtain ⟨v, u, N, k, b, is, turns, rfl, hP, hv, hi, hlen, hts, q⟩ := h
  have hu := hu_of hr
  have l3 := hP.nm.len
  have tk : (N.take k).length ≤ 3 := by rw [List.length_take]; omega
  refine ⟨_, (pss_cons (ps_asg (pe_disp (pps_cons pe_str (pv 2) (pps_cons pe_str (pe_lst pa_nil) (pps_cons pe_str (pe_callTy (T := "dict") (call_dictP rfl) (by rfl) T.z_dict (by decide +kernel) (pa_cons (pe_c c__law_pairs hr (by omega) rfl (pa_cons (pv 0) (pa_cons (pv 1) pa_nil))) pa_nil)) (pps_cons pe_str pe_non pps_nil)))) rfl rfl (List.cons_ne_nil _ _) (by decide)) (pg_name (i := 3) nd rfl (Or.inl rfl)))
  (pss_cons (ps_if (PW.pt (pw_and (pt_cmpR op_eq (pe_c c__law_go_block hr (by omega) rfl (pa_cons (pv 3) (pa_cons (pe_ixc ix_tup (pv 0)) pa_nil))) pe_str (nomark _)) (pw_and1 (pt_val (pe_c c__law_turn hr (by omega) rfl (pa_cons (pv 3) (pa_cons (pe_tup (pa_cons pe_str (pa_cons pe_int pa_nil))) pa_nil))))))) (pss_one (ps_dput hu (pv 3) pe_str pe_int rfl)) pss_nil)
  (pss_one (ps_ret (pv 3))))), ?_⟩
  refine fun a ha => ⟨_, rfl, (by show 0 ≤ sizeLine; decide), fun dl hdl => ?_⟩
  have hdl0 : H dl = none := (Kp.new (M := []) (o := .dK []) ha).free hdl
  have k1 : Kp [] H (upd (upd H a (.dK [])) dl (.lst [])) := (Kp.new ha).trans (Kp.new hdl)
  refine ⟨_, rfl, _, rfl, v, u, N, k, b, is, rfl, k1.dp FreeS.nil hv, k1.dp FreeS.nil hi, hlen, by omega, fun l H2 k2 hl => ?_⟩
  obtain ⟨ps, hl1, hl2⟩ := hl.ex
  refine ⟨l, ps, _, rfl, SqL.of hl1, hl2, fun nd' hnd => ?_⟩
  have em : mergeK [] (kvs ((N.take k).zip is)) = kvs (env0 ((N.take k).zip is)) := merge_kvs _ []
  rw [em]
  have k3 : Kp [] (upd (upd H a (.dK [])) dl (.lst [])) (upd H2 nd' (.dK (kvs (env0 ((N.take k).zip is))))) := k2.trans (Kp.new hnd)
  have a0 : (upd (upd H a (.dK [])) dl (.lst [])) a = some (.dK []) := by rw [upd_ne (ne_of_none upd_same hdl)]; exact upd_same
  have a3 := k3.at a0 (by simp)
  have d3 : (upd H2 nd' (.dK (kvs (env0 ((N.take k).zip is))))) dl = some (.lst []) := k3.at upd_same (by simp)
  have ne : a ≠ nd' := ne_of_none (k2.at a0 (by simp)) hnd
  refine ⟨a3, stK ⟨a, dl, nd'⟩ turns none, rfl, by show 4 ≤ 15; decide, ?_⟩
  have em2 : mergeK [] (stK ⟨a, dl, nd'⟩ turns none) = stK ⟨a, dl, nd'⟩ turns none := rfl
  rw [em2]
  have dla : dl ≠ a := ne_of d3 a3 (by intro z; cases z)
  have hel : (env0 ((N.take k).zip is)).length ≤ 3 := by
    have := foldl_put_len ((N.take k).zip is) []
    rw [List.length_zip] at this
    unfold env0
    simp only [List.length_nil] at this
    omega
  have hS : StAt K (upd (upd H2 nd' (.dK (kvs (env0 ((N.take k).zip is))))) a (.dK (stK ⟨a, dl, nd'⟩ turns none))) ⟨a, dl, nd'⟩ ⟨turns, [], env0 ((N.take k).zip is), none⟩ := by
    refine ⟨[], upd_same, ?_, .nil, ?_, ne, ?_, ?_⟩
    · show (upd _ a _) dl = _
      rw [upd_ne dla]; exact d3
    · show (upd _ a _) nd' = _
      rw [upd_ne ne.symm]; exact upd_same
    · show 0 + turns ≤ 1000
      omega
    · show (env0 ((N.take k).zip is)).length + turns ≤ 1000
      omega
  have kA : Kp [] H (upd (upd H2 nd' (.dK (kvs (env0 ((N.take k).zip is))))) a (.dK (stK ⟨a, dl, nd'⟩ turns none))) := fun x g hx hg => by
    rw [upd_ne (ne_of_none hg ha)]
    exact (k1.trans k3) x g hx hg
  generalize upd (upd H2 nd' (.dK (kvs (env0 ((N.take k).zip is))))) a (.dK (stK ⟨a, dl, nd'⟩ turns none)) = H4 at *
  have hv4 := kA.dp FreeS.nil hv
  -- what was free at the start
  have freeM : ∀ {H' : Hp}, Kp (Sa.M ⟨a, dl, nd'⟩) H4 H' → Kp [] H H' := fun kk x g hx hg => by
    refine kk x g ?_ (kA x g hx hg)
    simp only [List.mem_cons, List.not_mem_nil, or_false, not_or]
    refine ⟨ne_of_none hg ha, ne_of_none ((Kp.new (M := []) (o := .dK []) ha).at hg (by simp)) hdl, ne_of_none (k2.at (k1.at hg (by simp)) (by simp)) hnd⟩
  refine ⟨_, rfl, _, rfl, ?_⟩
  refine ixd (i := 1) hv4 rfl fun w hw => ?_
  refine ⟨⟨a, dl, nd'⟩, w, _, b, N, false, rfl, hS, hw, hP.nm.okN, hP.ok, by have := hP.dp; omega, by have := hP.dp; omega, fun H5 k5 hS5 => ?_⟩
  unfold runOf at q
  generalize goB b ⟨turns, [], env0 ((N.take k).zip is), none⟩ = g at q hS5 ⊢
  obtain ⟨md, r5⟩ := g
  cases md with
  | on =>
    refine ⟨rfl, _, rfl, iteT ?_⟩
    refine ⟨_, rfl, (by show 2 ≤ sizeLine; decide), fun x hx => ?_⟩
    have d1 : Dp K (upd H5 x (.tup [.str "give", .int 0])) (.ref x) (Deed.give (.num 0)).enc := dp_new upd_same (.cons (.str _) (.cons (.int _) .nil))
    refine ⟨⟨a, dl, nd'⟩, .ref x, r5, _, rfl, hS5.new hx, d1, fun H6 k6 hS6 => ?_⟩
    have k46 : Kp (Sa.M ⟨a, dl, nd'⟩) H4 H6 := k5.trans ((Kp.new hx).trans k6)
    by_cases z : r5.left = 0
    · simp only [turn_no z] at q hS6 ⊢
      exact ⟨_, rfl, iteF ⟨_, rfl, q ⟨a, dl, nd'⟩ H6 (freeM k46) ha hdl0 hS6⟩⟩
    · simp only [turn_yes z] at q hS6 ⊢
      refine ⟨_, rfl, iteT ?_⟩
      obtain ⟨ds, h6⟩ := hS6.ex
      refine ⟨_, rfl, a, _, rfl, DPut.k (k := Sum.inr "value") h6.ha stK_len, ?_⟩
      refine ⟨_, rfl, q ⟨a, dl, nd'⟩ _ (freeM (k46.trans (Kp.put (by simp)))) ha hdl0 (h6.setVal 0)⟩
  | cut => exact ⟨rfl, _, rfl, iteF (iteF ⟨_, rfl, q ⟨a, dl, nd'⟩ H5 (freeM k5) ha hdl0 hS5⟩)⟩
  | give => exact ⟨rfl, _, rfl, iteF (iteF ⟨_, rfl, q ⟨a, dl, nd'⟩ H5 (freeM k5) ha hdl0 hS5⟩)⟩
  | brk => exact ⟨rfl, _, rfl, iteF (iteF ⟨_, rfl, q ⟨a, dl, nd'⟩ H5 (freeM k5) ha hdl0 hS5⟩)⟩
  | nxt => exact ⟨rfl, _, rfl, iteF (iteF ⟨_, rfl, q ⟨a, dl, nd'⟩ H5 (freeM k5) ha hdl0 hS5⟩)⟩
end
end Sv
end
section
set_option Elab.async false
set_option linter.all false
set_option autoImplicit false
set_option maxRecDepth 100000
/-! W14: the law's counts. -/
namespace Sv
open PySem PySem.Spec PyProof.Rows L2
open C8 (pe_c pe_mt pe_mt0 pe_mk pe_gc)

def Deed.ok (N : List Str) : Deed → Prop
  | .test p _ => p.ok N
  | .skip => True
  | .set x v => x ∈ N ∧ v.ok N
  | .give a => a.ok N
theorem Deed.shaped {N : List Str} (hN : OkN N) (d : Deed) (h : d.ok N) : SeqAt.shaped d.enc = true := Deed.lay hN d (by cases d <;> exact h)
theorem standC_ok {N : List Str} : ∀ (c : Cnd) (s y n m : Nat), c.ok N → ∀ x ∈ (standC c s y n m).2, x.deed.ok N
  | .pair p, s, y, n, m, h, x, hx => by
    simp only [standC, List.mem_cons, List.not_mem_nil, or_false] at hx
    rcases hx with rfl | rfl <;> exact h
  | .not c, s, y, n, m, h, x, hx => standC_ok c s n y m h x hx
  | .bin true c d, s, y, n, m, h, x, hx => by
    rcases List.mem_append.mp hx with z | z
    · exact standC_ok c _ _ _ _ h.1 x z
    · exact standC_ok d _ _ _ _ h.2 x z
  | .bin false c d, s, y, n, m, h, x, hx => by
    rcases List.mem_append.mp hx with z | z
    · exact standC_ok c _ _ _ _ h.1 x z
    · exact standC_ok d _ _ _ _ h.2 x z
mutual
theorem standS_ok {N : List Str} : ∀ (st : Stm) (l : Bool) (s e o a m : Nat), st.ok N l → ∀ x ∈ (standS st s e o a m).2, x.deed.ok N
  | .set x v, l, s, e, o, a, m, h, y, hy => by
    rw [Stm.ok] at h
    simp only [standS, List.mem_singleton] at hy
    rw [hy]
    exact h
  | .give v, l, s, e, o, a, m, h, y, hy => by
    rw [Stm.ok] at h
    simp only [standS, List.mem_singleton] at hy
    rw [hy]
    exact h
  | .skip, l, s, e, o, a, m, h, y, hy => by
    simp only [standS, List.mem_singleton] at hy
    rw [hy]
    trivial
  | .brk, l, s, e, o, a, m, h, y, hy => by
    simp only [standS, List.mem_singleton] at hy
    rw [hy]
    trivial
  | .nxt, l, s, e, o, a, m, h, y, hy => by
    simp only [standS, List.mem_singleton] at hy
    rw [hy]
    trivial
  | .ifs c b1 b2, l, s, e, o, a, m, h, y, hy => by
    rw [Stm.ok] at h
    simp only [standS, List.mem_append] at hy
    rcases hy with (z | z) | z
    · exact standC_ok c _ _ _ _ h.1 y z
    · exact standB_ok b1 l _ _ _ _ _ h.2.2.1 y z
    · exact standB_ok b2 l _ _ _ _ _ h.2.2.2 y z
  | .while c b, l, s, e, o, a, m, h, y, hy => by
    rw [Stm.ok] at h
    simp only [standS, List.mem_append] at hy
    rcases hy with z | z
    · exact standC_ok c _ _ _ _ h.1 y z
    · exact standB_ok b true _ _ _ _ _ h.2.2 y z
  | .loop b, l, s, e, o, a, m, h, y, hy => by
    rw [Stm.ok] at h
    rw [standS] at hy
    exact standB_ok b true _ _ _ _ _ h y hy
theorem standB_ok {N : List Str} : ∀ (b : Blk) (l : Bool) (s e o a m : Nat), b.ok N l → ∀ x ∈ (standB b s e o a m).2, x.deed.ok N
  | .nil, l, s, e, o, a, m, h, y, hy => by
    simp only [standB, List.mem_singleton] at hy
    rw [hy]
    trivial
  | .cons st .nil, l, s, e, o, a, m, h, y, hy => by
    rw [Blk.ok] at h
    rw [standB] at hy
    exact standS_ok st l _ _ _ _ _ h.1 y hy
  | .cons st (.cons st2 b), l, s, e, o, a, m, h, y, hy => by
    rw [Blk.ok] at h
    simp only [standB, List.mem_append] at hy
    rcases hy with z | z
    · exact standS_ok st l _ _ _ _ _ h.1 y z
    · exact standB_ok (.cons st2 b) l _ _ _ _ _ h.2 y z
end
theorem graph_ok' {N : List Str} {b : Blk} (h : b.ok N false) : ∀ x ∈ (graphOf b).2, x.deed.ok N := fun x hx => by
  rcases List.mem_append.mp hx with z | z
  · exact standB_ok b false _ _ _ _ _ h x z
  · rw [List.mem_singleton] at z
    rw [z]
    exact ⟨by decide, by decide⟩
theorem Path.deeds_ok {N : List Str} {es : List Edge} (he : ∀ x ∈ es, x.deed.ok N) {p q : Nat} {e1 e2 : En} {ds : List Deed} (h : Path es p e1 ds q e2) : ∀ d ∈ ds, d.ok N := by
  induction h with
  | nil p env => intro d hd; cases hd
  | cons a b c ih =>
    intro d hd
    rcases List.mem_cons.mp hd with rfl | hd
    · exact he _ a
    · exact ih d hd
/-- the rows in memory: a list of tuples of ints -/
def RowsAt (K : PySem.W.Frag) (H : Hp) (a : Addr) (rows : List (List Int)) : Prop := ∃ xs, H a = some (.lst xs) ∧ DpAll K H xs (rows.map intsD)
def intsOf (f : List Int) : List V := f.map V.int
def envs (N : List Str) (k : Nat) (rows : List (List Int)) : List En := rows.map fun is => env0 ((N.take k).zip is)
def spCounted (K : PySem.W.Frag) : Sp := fun vs H Q _ => ∃ (v : V) (m ra : Addr) (N : List Str) (k : Nat) (b : Blk) (rows : List (List Int)) (turns : Nat), vs = [v, .ref m, .ref ra, .int (turns : Nat)] ∧ PrOk N k b ∧ Dp K H v (prEnc N k b) ∧ MadeAt K H m (graphOf b).1 (graphOf b).2 ∧
  RowsAt K H ra rows ∧ (∀ is ∈ rows, is.length = (N.take k).length) ∧ turns ≤ 500 ∧
  ∀ (t f : Addr) H', Kp [] H H' → H' t = some (.tup [.ref f, .int (doneAll b turns (envs N k rows) : Nat)]) → H' f = some (.lst (intsOf (countAll b turns (envs N k rows) (List.replicate (graphOf b).2.length 0)))) → Q (.ref t) H'
theorem sc_counted : FnScope ["_law_told", "_law_graph_here", "_law_rows", "_law_turns", "_law_found", "_law_done", "_law_row", "_law_point", "_law_state", "_law_deed", "_law_at", "_law_k", "_law_edge"] ["_law_told", "_law_graph_here", "_law_rows", "_law_turns"] (C8.fnScope (topS 90)) := C8.fnScope_by (by decide +kernel)
theorem rep_flat : ∀ n : Nat, (List.replicate n [V.int 0]).flatten = List.replicate n (V.int 0)
  | 0 => rfl
  | n + 1 => by rw [List.replicate_succ, List.flatten_cons, rep_flat n, List.replicate_succ]; rfl
theorem ixN_nat {n i : Nat} (h : i < n) : ixN n ((i : Nat) : Int) = some i := by
  unfold ixN
  rw [if_pos (by omega), if_pos (by omega)]
  rfl
theorem intsOf_bump (f : List Int) (i : Nat) : (intsOf f).set i (.int (f.getD i 0 + 1)) = intsOf (bump f i) := by
  unfold intsOf bump
  rw [List.map_set]
theorem intsOf_at {f : List Int} {i : Nat} (h : i < f.length) : (intsOf f)[i]? = some (.int (f.getD i 0)) := by
  unfold intsOf
  rw [List.getElem?_map, List.getElem?_eq_getElem h, List.getD_eq_getElem?_getD, List.getElem?_eq_getElem h]
  rfl
section
variable {P : Program} {w : World} {K : PySem.W.Frag} {mg : Str → Option Value} {base : Heap}
set_option maxHeartbeats 1000000
theorem counted_ok (T : Txt K mg) : C8.Cal P w K mg base 49 "_law_counted" (spCounted K) [] := by
  have nd := sc_counted.nd
  have c__law_run := run_law (P := P) (w := w) (base := base) T
  refine calD T.d__law_counted sc_counted (fun vs H Q E h => ?_) (fun f cdv A outer s0 H vs Q E hr h => ?_)
  · obtain ⟨v, m, ra, N, k, b, rows, turns, rfl, _⟩ := h
    rfl
  obtain ⟨v, m, ra, N, k, b, rows, turns, rfl, hP, hv, hM, ⟨rxs, hr1, hr2⟩, hrl, hts, q⟩ := h
  have hu := hu_of hr
  obtain ⟨l, xs, hm⟩ := hM.ex
  have ml := hm.len
  have gl := graph_len hP.ok
  have hsz := hP.size
  have hg := (graph_good b).1
  have hok := graph_ok' hP.ok
  refine ⟨_, (pss_cons (ps_par (i := 4) (j := 5) (by rfl) nd rfl rfl (by decide) rfl rfl (pa_cons (pe_op op_rep (pe_lst (pa_cons pe_int pa_nil)) (pe_callB (id := "len") call_len_seq (by rfl) T.z_len PySem.boot_len (pa_cons (pe_dget hu (pv 1) pe_str (fun _ _ => rfl)) pa_nil))) (pa_cons pe_int pa_nil)) (by rfl))
  (pss_cons (ps_for PassesOwn.never rfl (pi_list (pv 2)) (pg_name (i := 6) nd rfl (Or.inl rfl))
    (pss_cons (ps_asg (pe_tup (pa_cons pe_int (pa_cons (pe_c c__law_run hr (by omega) rfl (pa_cons (pv 0) (pa_cons (pv 6) (pa_cons (pv 3) pa_nil)))) pa_nil))) (pg_tup rfl (pgs_cons (pg_name (i := 7) nd rfl (Or.inr rfl)) (pgs_cons (pg_name (i := 8) nd rfl (Or.inl rfl)) pgs_nil))))
  (pss_cons (ps_asg (pe_op op_add (pv 5) (pe_callTy (T := "int") call_int1 (by rfl) T.z_int (by decide +kernel) (pa_cons (pe_cmpR op_notN (pe_dget hu (pv 8) pe_str (fun _ _ => rfl)) pe_non (nomark _)) pa_nil))) (pg_name (i := 5) nd rfl (Or.inl rfl)))
  (pss_one (ps_for PassesOwn.never rfl (pi_list (pe_dget hu (pv 8) pe_str (fun _ _ => rfl))) (pg_name (i := 9) nd rfl (Or.inr rfl))
    (pss_cons (ps_asg (pe_ixc ix_list (pe_lc (own := [("_law_k", 11), ("_law_edge", 12)]) rfl nd (pi_enum rfl T.z_enumerate (pa_cons (pe_dget hu (pv 1) pe_str (fun _ _ => rfl)) pa_nil)) (blkOk_by (N := ["_law_told", "_law_graph_here", "_law_rows", "_law_turns", "_law_found", "_law_done", "_law_row", "_law_point", "_law_state", "_law_deed", "_law_at", "_law_k", "_law_edge"]) (sc := C8.fnScope (topS 90)) (by decide +kernel)) (fun _ _ _ _ _ => (pg_tupK (K := K) (n := 2) rfl rfl (pgs_cons (pg_name (i := 11) nd rfl (Or.inl rfl) (.inr rfl)) (pgs_cons (pg_name (i := 12) nd rfl (Or.inl rfl) (.inr rfl)) pgs_nil)))) (fun _ _ _ _ _ => pts_one (PW.pt (pw_and (pt_cmpR op_eq (pe_ixc (r := rIxT K) ix_tup (pv 12)) (pv 7) (nomark _)) (pw_and1 (pt_cmpR (r := rEqD K) (op_eqD hr.units) (pe_ixc (r := rIxT K) ix_tup (pv 12)) (pv 9) (nomark _)))))) (fun _ _ _ _ _ => (pv 11)))) (pg_name (i := 10) nd rfl (Or.inl rfl)))
  (pss_cons (ps_asg (pe_op op_add (pe_ix ix_list (pv 4) (pv 10) (fun _ _ => rfl)) pe_int) (pg_sub (pv 4) (pv 10) set_list))
  (pss_one (ps_asg (pe_ixc ix_tup (pe_ix ix_list (pe_dget hu (pv 1) pe_str (fun _ _ => rfl)) (pv 10) (fun _ _ => rfl))) (pg_name (i := 7) nd rfl (Or.inr rfl)))))))))))
  (pss_one (ps_ret (pe_tup (pa_cons (pv 4) (pa_cons (pv 5) pa_nil))))))), ?_⟩
  generalize hes : (graphOf b).2 = es at *
  -- found
  refine ⟨(by show 1 ≤ sizeLine; decide), fun z0 hz0 => ?_⟩
  have km0 : Kp [] H (upd H z0 (.lst [.int 0])) := Kp.new hz0
  refine ⟨_, rfl, m, _, rfl, DGet.k (k := Sum.inr "edges") (km0.at hm.hm (by simp)), l, xs, rfl, .inl (SqL.of (km0.at hm.hl (by simp))), ?_⟩
  refine ⟨z0, _, _, rfl, rfl, upd_same, by omega, by omega, sm (by show 1 * _ ≤ _; omega), fun F hF => ?_⟩
  have erep : (List.replicate ((xs.length : Nat) : Int).toNat [V.int 0]).flatten = intsOf (List.replicate es.length 0) := by
    have : ((xs.length : Nat) : Int).toNat = es.length := by omega
    rw [this]
    unfold intsOf
    rw [List.map_replicate]
    exact rep_flat _
  rw [erep]
  have k1 : Kp [] H (upd (upd H z0 (.lst [.int 0])) F (.lst (intsOf (List.replicate es.length 0)))) := km0.trans (Kp.new hF)
  have F1 : (upd (upd H z0 (.lst [.int 0])) F (.lst (intsOf (List.replicate es.length 0)))) F = some (.lst (intsOf (List.replicate es.length 0))) := upd_same
  have HF : H F = none := km0.free hF
  generalize upd (upd H z0 (.lst [.int 0])) F (.lst (intsOf (List.replicate es.length 0))) = H1 at k1 F1 ⊢
  refine ⟨_, _, rfl, ?_⟩
  refine ⟨_, rfl, ra, rfl, ⟨rxs, SqL.of (k1.at hr1 (by simp))⟩, ?_⟩
  have rl := dpA_len hr2
  rw [List.length_map] at rl
  refine for_list (xs := rxs) (fun i σ H' => ∃ (v6 v7 v8 v9 v10 v11 v12 : Option V) (done : Nat) (fl : List Int), σ = [some v, some (.ref m), some (.ref ra), some (.int (turns : Nat)), some (.ref F), some (.int (done : Nat)), v6, v7, v8, v9, v10, v11, v12] ∧ Kp [] H H' ∧ H' F = some (.lst (intsOf fl)) ∧ fl.length = es.length ∧
      countAll b turns (envs N k (rows.drop i)) fl = countAll b turns (envs N k rows) (List.replicate es.length 0) ∧ done + doneAll b turns (envs N k (rows.drop i)) = doneAll b turns (envs N k rows))
    ⟨_, _, _, _, _, _, _, 0, _, rfl, k1, F1, by simp, rfl, by rw [Nat.zero_add]; rfl⟩ (fun i σ H' _ h => by
      obtain ⟨_, _, _, _, _, _, _, _, _, _, kk, _⟩ := h
      exact SqL.of (kk.at hr1 (by simp))) ?_ ?_
  · rintro i x _ H2 hx ⟨v6, v7, v8, v9, v10, v11, v12, done, fl, rfl, k2, F2, fll, eC, eD⟩
    obtain ⟨is, his, hdx⟩ := dpA_map hr2 hx
    obtain ⟨hi, hie⟩ := List.getElem?_eq_some_iff.mp his
    have ed : rows.drop i = is :: rows.drop (i + 1) := by rw [← hie]; exact List.drop_eq_getElem_cons hi
    rw [ed] at eC eD
    have isl := hrl is (List.mem_of_getElem? his)
    refine ⟨_, rfl, _, rfl, _, rfl, ?_⟩
    refine ⟨v, x, N, k, b, is, turns, rfl, hP, k2.dp FreeS.nil hv, k2.dp FreeS.nil hdx, isl, hts, fun p H3 k3 pa0 pd0 hS3 => ?_⟩
    have hrun := run_ok b (env0 ((N.take k).zip is)) turns hP.ok
    generalize hrr : runOf b (env0 ((N.take k).zip is)) turns = r at hS3 hrun
    obtain ⟨qp, env', hpath, _, _, _⟩ := hrun.ex
    rw [hes] at hpath
    refine ⟨(by show 2 ≤ sizeLine; decide), fun u hu1 => ?_⟩
    have hS4 := hS3.new (o := .tup [.int 0, .ref p.a]) hu1
    have k4 : Kp [] H2 (upd H3 u (.tup [.int 0, .ref p.a])) := k3.trans (Kp.new hu1)
    refine ⟨u, _, rfl, SqT.of upd_same, rfl, _, _, rfl, _, _, rfl, rfl, ?_⟩
    generalize upd H3 u (.tup [.int 0, .ref p.a]) = H4 at *
    obtain ⟨ds, h4⟩ := hS4.ex
    refine ⟨_, rfl, _, rfl, p.a, _, rfl, DGet.k (k := Sum.inr "value") h4.ha, rfl, .inr ⟨_, rfl, ?_⟩⟩
    refine ⟨_, _, rfl, rfl, ?_⟩
    have edone : V.int ((done : Int) + (if (!decide (optV r.val = V.non)) then 1 else 0)) = .int ((done + (if r.val.isSome = true then 1 else 0) : Nat) : Int) := by
      cases r.val <;> rfl
    refine ⟨_, rfl, p.a, _, rfl, DGet.k (k := Sum.inr "deeds") h4.ha, p.dl, rfl, ⟨ds, SqL.of h4.hd⟩, ?_⟩
    have dlen := dpA_len h4.hA
    rw [List.length_map] at dlen
    have pF : p.dl ≠ F := fun z => by rw [z, F2] at pd0; cases pd0
    have aF : p.a ≠ F := fun z => by rw [z, F2] at pa0; cases pa0
    have F4 : H4 F = some (.lst (intsOf fl)) := k4.at F2 (by simp)
    have k04 : Kp [] H H4 := k2.trans k4
    have fF : FreeT [F] H4 := fun b hb => by rw [List.mem_singleton] at hb; rw [hb, F4]; rfl
    refine for_list (xs := ds) (fun j σ H' => ∃ (v9 v10 : Option V) (pt : Nat) (fl' : List Int) (env : En), σ = [some v, some (.ref m), some (.ref ra), some (.int (turns : Nat)), some (.ref F), some (.int ((done + (if r.val.isSome = true then 1 else 0) : Nat) : Int)), some x, some (.int (pt : Nat)), some (.ref p.a), v9, v10, v11, v12] ∧ Kp [] H H' ∧ Kp [F] H4 H' ∧ H' F = some (.lst (intsOf fl')) ∧ fl'.length = es.length ∧
        Path es pt env (r.deeds.drop j) qp env' ∧ walkN es (r.deeds.drop j) pt fl' = walkN es r.deeds 0 fl)
      ⟨v9, v10, 0, fl, _, ?_, k04, Kp.refl, F4, fll, hpath, rfl⟩ (fun j σ H' _ h => by
        obtain ⟨_, _, _, _, _, _, _, kk, _⟩ := h
        exact SqL.of (kk.at h4.hd (by simpa using pF))) ?_ ?_
    · show [some v, some (.ref m), some (.ref ra), some (.int (turns : Nat)), some (.ref F), some (V.int ((done : Int) + (if (!decide (optV r.val = V.non)) then 1 else 0))), some x, some (.int 0), some (.ref p.a), v9, v10, v11, v12] = _
      rw [edone]
      rfl
    · rintro j dv _ H5 hdv ⟨v9, v10, pt, fl', env, rfl, k05, k45, F5, fll', hp5, ew⟩
      obtain ⟨d, hd, hdd⟩ := dpA_map (k45.dpTA fF (deeds_tu _) h4.hA) hdv
      obtain ⟨hj, hje⟩ := List.getElem?_eq_some_iff.mp hd
      have edr : r.deeds.drop j = d :: r.deeds.drop (j + 1) := by rw [← hje]; exact List.drop_eq_getElem_cons hj
      rw [edr] at hp5 ew
      obtain ⟨i0, rest, e, pl1, pl2, ei, es1, es2, _, hp6, ew2⟩ := hp5.step hg
      have dok := hp5.deeds_ok hok d List.mem_cons_self
      have hm5 := hm.kp0 k05
      -- the place
      refine ⟨_, rfl, m, _, rfl, DGet.k (k := Sum.inr "edges") hm5.hm, l, xs, rfl, SqL.of hm5.hl, fun D hD => ?_⟩
      refine lc_it (walk_enum (xs := xs)) (fun i H' => Kp [] H5 H' ∧ H' D = some (.lst ((places (hit pt d) (es.take i)).map fun n => V.int (n : Nat)))) ⟨Kp.new hD, upd_same⟩ (fun i H' _ ⟨kk, _⟩ => SqL.of (kk.at hm5.hl (by simp))) ?_ ?_
      · rintro i1 xx H6 H7 hi1 ⟨k6, hD6⟩ ⟨Tt, x0, y0, rfl, hT, rfl, hx0, hy0⟩
        cases hx0
        have k7 : Kp [] H5 (upd H6 Tt (.tup [.int (i1 : Nat), y0])) := k6.trans (Kp.new hT)
        obtain ⟨e1, he1, hde⟩ := dpA_map (k7.dpA FreeS.nil hm5.ha) hy0
        have D7 := (Kp.new (M := []) (o := .tup [.int (i1 : Nat), y0]) hT).at hD6 (by simp)
        have eT : es.take (i1 + 1) = es.take i1 ++ [e1] := by rw [List.take_add_one, he1]; rfl
        have ltk : (es.take i1).length = i1 := by rw [List.length_take]; omega
        refine ⟨Tt, _, rfl, SqT.of upd_same, rfl, _, _, rfl, _, _, rfl, rfl, rfl, ?_⟩
        generalize upd H6 Tt (.tup [.int (i1 : Nat), y0]) = H7 at *
        have e1ok := hok e1 (List.mem_of_getElem? he1)
        have no : hit pt d e1 = false → Kp [] H5 H7 ∧ H7 D = some (.lst ((places (hit pt d) (es.take (i1 + 1))).map fun n => V.int (n : Nat))) := fun z => by
          refine ⟨k7, ?_⟩
          rw [eT, places_snoc, if_neg (by rw [z]; decide), List.append_nil]
          exact D7
        refine ⟨_, rfl, ?_⟩
        refine ixd (i := 0) hde rfl fun w hw => ?_
        cases dp_int hw
        refine ⟨_, rfl, rfl, _, rfl, ?_⟩
        refine ite2 (fun c1 => ?_) (fun c1 => ?_)
        · have c1' : e1.start = pt := by have := V.int.inj (of_decide_eq_true c1); omega
          refine ⟨_, rfl, ?_⟩
          refine ixd (i := 1) hde rfl fun w hw => ?_
          refine ⟨_, rfl, ?_⟩
          refine ⟨e1.deed.enc, d.enc, hw, k7.dp FreeS.nil hdd, e1.deed.shaped hP.nm.okN e1ok, d.shaped hP.nm.okN dok, _, rfl, ?_⟩
          rw [Deed.eqv]
          refine ite2 (fun c2 => ?_) (fun c2 => ?_)
          · have hh : hit pt d e1 = true := by unfold hit; rw [decide_eq_true c1', c2]; rfl
            refine ⟨_, rfl, _, D7, sm' (by rw [List.length_map]; have := places_le (hit pt d) (es.take i1); omega), fun g hgo hg1 hg2 => ?_, ?_⟩
            · rw [upd_ne (ne_of_none hg2 hD)]
              exact k7 _ _ hg1 hg2
            · rw [upd_same, eT, places_snoc, if_pos hh, ltk, List.map_append]
              rfl
          · exact no (by unfold hit; rw [Bool.eq_false_iff.mpr c2, Bool.and_false])
        · refine no ?_
          unfold hit
          rw [decide_eq_false (fun z => c1 (decide_eq_true (congrArg V.int (by rw [z])))), Bool.false_and]
      · rintro H6 ⟨k6, hD6⟩
        rw [List.take_of_length_le (by omega), pl1] at hD6
        have i0l : i0 < es.length := (List.getElem?_eq_some_iff.mp ei).1
        have hm6 := hm5.kp0 k6
        have F6 := k6.at F5 (by simp)
        refine ⟨D, _, _, .int (i0 : Nat), rfl, rfl, SqL.of hD6, atI_nat (j := 0) rfl, ?_⟩
        -- found[at] + 1
        refine ⟨_, rfl, _, rfl, F, _, _, _, rfl, rfl, SqL.of F6, atI_nat (intsOf_at (by omega)), _, _, rfl, rfl, ?_⟩
        refine ⟨_, rfl, _, rfl, F, _, _, i0, rfl, rfl, F6, ixN_nat (by unfold intsOf; rw [List.length_map]; omega), ?_⟩
        have eb := intsOf_bump fl' i0
        have kF : Kp [F] H6 (upd H6 F (.lst (intsOf (bump fl' i0)))) := Kp.put (by simp)
        have fF6 : FreeT [F] H6 := fun b hb => by rw [List.mem_singleton] at hb; rw [hb, F6]; rfl
        show (fun H7 : Hp => _) (upd H6 F (.lst ((intsOf fl').set i0 (.int (fl'.getD i0 0 + 1)))))
        rw [eb]
        have k07 : Kp [] H (upd H6 F (.lst (intsOf (bump fl' i0)))) := fun g o hg1 hg2 => by
          rw [upd_ne (ne_of_none hg2 HF)]
          exact k6 _ _ hg1 (k05 _ _ hg1 hg2)
        have hm7 := hm.kp0 k07
        obtain ⟨ev, hev, hdev⟩ := dpA_at hm7.ha (show (es.map Edge.enc)[i0]? = some e.enc by rw [List.getElem?_map, ei]; rfl)
        refine ⟨_, rfl, m, _, rfl, DGet.k (k := Sum.inr "edges") hm7.hm, _, rfl, l, _, _, ev, rfl, rfl, SqL.of hm7.hl, atI_nat hev, ?_⟩
        refine ixd (i := 2) hdev rfl fun w hw => ?_
        cases dp_int hw
        exact ⟨_, _, e.stop, bump fl' i0, _, rfl, k07, k45.trans ((k6.all).trans kF), upd_same, by rw [bump_len]; exact fll', hp6, by rw [← ew2]; exact ew⟩
    · rintro _ H5 ⟨v9, v10, pt, fl', env, rfl, k05, k45, F5, fll', hp5, ew⟩
      rw [List.drop_eq_nil_of_le (by omega)] at ew
      refine ⟨_, _, _, _, _, _, _, _, fl', rfl, k05, F5, fll', ?_, ?_⟩
      · rw [← eC]
        show _ = countAll b turns (env0 ((N.take k).zip is) :: envs N k (rows.drop (i + 1))) fl
        rw [countAll, hrr, hes, ← ew]
        rfl
      · rw [← eD]
        show _ = done + doneAll b turns (env0 ((N.take k).zip is) :: envs N k (rows.drop (i + 1)))
        rw [doneAll, hrr]
        omega
  · rintro _ H2 ⟨v6, v7, v8, v9, v10, v11, v12, done, fl, rfl, k2, F2, fll, eC, eD⟩
    rw [List.drop_eq_nil_of_le (by omega)] at eC eD
    refine ⟨_, rfl, _, rfl, (by show 2 ≤ sizeLine; decide), fun t ht => ?_⟩
    have eC' : fl = countAll b turns (envs N k rows) (List.replicate es.length 0) := eC
    have eD' : done = doneAll b turns (envs N k rows) := eD
    refine q t F _ (k2.trans (Kp.new ht)) ?_ ?_
    · rw [upd_same, eD']
    · rw [upd_ne (ne_of_none F2 ht), F2, eC']
end
end Sv
end
section
set_option Elab.async false
set_option linter.all false
set_option autoImplicit false
set_option maxRecDepth 100000
/-! W15: the law's flows; the pen made; inputs. -/
namespace Sv
open PySem PySem.Spec PyProof.Rows L2
open C8 (pe_c pe_mt pe_mt0 pe_mk pe_gc)

def picks (g : Edge → Bool) (es : List Edge) (f : List Int) : List Int := ((es.zip f).filter fun p => g p.1).map (·.2)
theorem picks_snoc (g : Edge → Bool) {es : List Edge} {f : List Int} {i : Nat} {e : Edge} {x : Int} (he : es[i]? = some e) (hf : f[i]? = some x) : picks g (es.take (i + 1)) (f.take (i + 1)) = picks g (es.take i) (f.take i) ++ (if g e = true then [x] else []) := by
  unfold picks
  have h1 : (es.take (i + 1)) = es.take i ++ [e] := by rw [List.take_add_one, he]; rfl
  have h2 : (f.take (i + 1)) = f.take i ++ [x] := by rw [List.take_add_one, hf]; rfl
  have l1 : (es.take i).length = (f.take i).length := by
    have := (List.getElem?_eq_some_iff.mp he).1
    have := (List.getElem?_eq_some_iff.mp hf).1
    rw [List.length_take, List.length_take]
    omega
  rw [h1, h2, List.zip_append l1, List.filter_append, List.map_append]
  congr 1
  simp only [List.zip_cons_cons, List.zip_nil_left, List.filter_cons, List.filter_nil]
  split <;> rfl
theorem picks_len (g : Edge → Bool) (es : List Edge) (f : List Int) : (picks g es f).length ≤ es.length := by
  unfold picks
  rw [List.length_map]
  refine Nat.le_trans (List.length_filter_le _ _) ?_
  rw [List.length_zip]
  omega
theorem dpA_ints {K : PySem.W.Frag} {H : Hp} : ∀ is : List Int, DpAll K H (intsOf is) (is.map PyData.int)
  | [] => .nil
  | x :: r => .cons (.int x) (dpA_ints r)
def spFlows (K : PySem.W.Frag) : Sp := fun vs H Q _ => ∃ (m ta : Addr) (N : List Str) (b : Blk) (f : List Int) (many : Nat), vs = [.ref m, .ref ta, .int (many : Nat)] ∧ b.ok N false ∧ b.size ≤ 39 ∧ MadeAt K H m (graphOf b).1 (graphOf b).2 ∧ SqT K H ta (intsOf f) ∧ f.length = (graphOf b).2.length ∧
  (∀ x : Nat, came (graphOf b).2 x f + one (x = 0) * (many : Int) = gone (graphOf b).2 x f + one (x = 1) * (many : Int)) ∧ ∀ H', Kp [] H H' → Q (.bl true) H'
theorem sc_flows : FnScope ["_law_graph_here", "_law_told", "_law_many", "_law_point", "_law_came", "_law_gone", "_law_k", "_law_edge"] ["_law_graph_here", "_law_told", "_law_many"] (C8.fnScope (topS 91)) := C8.fnScope_by (by decide +kernel)
def spPen (K : PySem.W.Frag) : Sp := fun vs H Q _ => ∃ (a : Addr) (ns : List Int), vs = [.ref a] ∧ SqL K H a (ns.map V.int) ∧ ns.length ≤ 63 ∧ ∀ (p : Pn) H', Kp [] H H' → H p.a = none → H p.l = none → PenAt H' p 0 → Q (.ref p.a) H'
theorem sc_pen : FnScope ["_law_script", "_law_fold", "_law_cell"] ["_law_script"] (C8.fnScope (topS 59)) := C8.fnScope_by (by decide +kernel)
def spFar : Sp := fun vs H Q _ => ∃ (p : Pn) (n : Nat), vs = [.ref p] ∧ PenAt H p n ∧ n + 12 ≤ penMax ∧ ∀ (i : Int) H', Kp [p] H H' → PenAt H' p (n + 12) → Q (.int i) H'
theorem sc_far : FnScope ["_law_pen_here", "_law_sign", "_law_many", "_law_far_here", "_law_lap"] ["_law_pen_here"] (C8.fnScope (topS 62)) := C8.fnScope_by (by decide +kernel)
def spInputs (K : PySem.W.Frag) : Sp := fun vs H Q _ => ∃ (p : Pn) (v : V) (N : List Str) (k : Nat) (b : Blk) (n : Nat), vs = [.ref p, v] ∧ (N.take k).length ≤ 3 ∧ Dp K H v (prEnc N k b) ∧ PenAt H p n ∧ n + 42 ≤ penMax ∧
  ∀ (is : List Int) (v' : V) H', is.length = (N.take k).length → Dp K H' v' (intsD is) → Kp [p] H H' → PenAt H' p (n + 42) → Q v' H'
theorem sc_inputs : FnScope ["_law_pen_here", "_law_told", "_law_name"] ["_law_pen_here", "_law_told"] (C8.fnScope (topS 82)) := C8.fnScope_by (by decide +kernel)
section
variable {P : Program} {w : World} {K : PySem.W.Frag} {mg : Str → Option Value} {base : Heap}
set_option maxHeartbeats 1000000
theorem flows_ok (T : Txt K mg) : C8.Cal P w K mg base 1 "_law_flows" (spFlows K) [] := by
  have nd := sc_flows.nd
  refine calD T.d__law_flows sc_flows (fun vs H Q E h => ?_) (fun f cdv A outer s0 H vs Q E hr h => ?_)
  · obtain ⟨m, ta, N, b, f, many, rfl, _⟩ := h
    rfl
  obtain ⟨m, ta, N, b, fl, many, rfl, hbo, hbs, hM, hT, hfl, hx, q⟩ := h
  have hu := hu_of hr
  obtain ⟨l, xs, hm⟩ := hM.ex
  have ml := hm.len
  have gl := graph_len hbo
  refine ⟨_, (pss_cons (ps_for PassesOwn.never rfl (pi_range1 rfl T.z_range (pa_cons (pe_dget hu (pv 0) pe_str (fun _ _ => rfl)) pa_nil)) (pg_name (i := 3) nd rfl (Or.inr rfl))
    (pss_cons (ps_asg (pe_callB (id := "sum") (cr_sum rfl) (by rfl) T.z_sum (by decide +kernel) (pa_cons (pe_lc (own := [("_law_k", 6), ("_law_edge", 7)]) rfl nd (pi_enum rfl T.z_enumerate (pa_cons (pe_dget hu (pv 0) pe_str (fun _ _ => rfl)) pa_nil)) (blkOk_by (N := ["_law_graph_here", "_law_told", "_law_many", "_law_point", "_law_came", "_law_gone", "_law_k", "_law_edge"]) (sc := C8.fnScope (topS 91)) (by decide +kernel)) (fun _ _ _ _ _ => (pg_tupK (K := K) (n := 2) rfl rfl (pgs_cons (pg_name (i := 6) nd rfl (Or.inl rfl) (.inr rfl)) (pgs_cons (pg_name (i := 7) nd rfl (Or.inl rfl) (.inr rfl)) pgs_nil)))) (fun _ _ _ _ _ => pts_one (pt_cmpR op_eq (pe_ixc (r := rIxT K) ix_tup (pv 7)) (pv 3) (nomark _))) (fun _ _ _ _ _ => (pe_ix (r := rIxT K) ix_tup (pv 1) (pv 6) (fun _ _ => rfl)))) pa_nil)) (pg_name (i := 4) nd rfl (Or.inl rfl)))
  (pss_cons (ps_asg (pe_callB (id := "sum") (cr_sum rfl) (by rfl) T.z_sum (by decide +kernel) (pa_cons (pe_lc (own := [("_law_k", 6), ("_law_edge", 7)]) rfl nd (pi_enum rfl T.z_enumerate (pa_cons (pe_dget hu (pv 0) pe_str (fun _ _ => rfl)) pa_nil)) (blkOk_by (N := ["_law_graph_here", "_law_told", "_law_many", "_law_point", "_law_came", "_law_gone", "_law_k", "_law_edge"]) (sc := C8.fnScope (topS 91)) (by decide +kernel)) (fun _ _ _ _ _ => (pg_tupK (K := K) (n := 2) rfl rfl (pgs_cons (pg_name (i := 6) nd rfl (Or.inl rfl) (.inr rfl)) (pgs_cons (pg_name (i := 7) nd rfl (Or.inl rfl) (.inr rfl)) pgs_nil)))) (fun _ _ _ _ _ => pts_one (pt_cmpR op_eq (pe_ixc (r := rIxT K) ix_tup (pv 7)) (pv 3) (nomark _))) (fun _ _ _ _ _ => (pe_ix (r := rIxT K) ix_tup (pv 1) (pv 6) (fun _ _ => rfl)))) pa_nil)) (pg_name (i := 5) nd rfl (Or.inl rfl)))
  (pss_one (ps_if (pt_cmpR op_ne (pe_op op_add (pv 4) (pe_mid (pe_ifExp (pt_cmpR op_eq (pv 3) pe_int (nomark _)) (pv 2) pe_int))) (pe_op op_add (pv 5) (pe_mid (pe_ifExp (pt_cmpR op_eq (pv 3) pe_int (nomark _)) (pv 2) pe_int))) (nomark _)) (pss_one (ps_ret pe_bl)) pss_nil)))))
  (pss_one (ps_ret pe_bl))), ?_⟩
  generalize hes : (graphOf b).2 = es at *
  generalize hMM : (graphOf b).1 = MM at *
  refine ⟨_, rfl, m, _, rfl, DGet.k (k := Sum.inr "many") hm.hm, _, rfl, by omega, by omega, ?_⟩
  refine for_range (n := ((MM : Nat) : Int).toNat) (fun i σ H' => ∃ (v3 v4 v5 v6 v7 : Option V), σ = [some (.ref m), some (.ref ta), some (.int (many : Nat)), v3, v4, v5, v6, v7] ∧ Kp [] H H') ⟨_, _, _, _, _, rfl, Kp.refl⟩ ?_ ?_
  · rintro i _ H1 hi ⟨v3, v4, v5, v6, v7, rfl, k1⟩
    have hm1 := hm.kp0 k1
    have hT1 := k1.sqT FreeS.nil.t hT
    refine ⟨_, rfl, m, _, rfl, DGet.k (k := Sum.inr "edges") hm1.hm, l, xs, rfl, SqL.of hm1.hl, fun D hD => ?_⟩
    refine lc_it (walk_enum (xs := xs)) (fun i2 H' => Kp [] H1 H' ∧ H' D = some (.lst (intsOf (picks (fun e => decide (e.stop = i)) (es.take i2) (fl.take i2))))) ⟨Kp.new hD, upd_same⟩ (fun i H' _ ⟨kk, _⟩ => SqL.of (kk.at hm1.hl (by simp))) ?_ ?_
    · rintro i1 xx H6 H7 hi1 ⟨k6, hD6⟩ ⟨Tt, x0, y0, rfl, hTt, rfl, hx0, hy0⟩
      cases hx0
      have k7 : Kp [] H1 (upd H6 Tt (.tup [.int (i1 : Nat), y0])) := k6.trans (Kp.new hTt)
      obtain ⟨e1, he1, hde⟩ := dpA_map (k7.dpA FreeS.nil hm1.ha) hy0
      have D7 := (Kp.new (M := []) (o := .tup [.int (i1 : Nat), y0]) hTt).at hD6 (by simp)
      have hf1 : fl[i1]? = some (fl.getD i1 0) := by rw [List.getD_eq_getElem?_getD, List.getElem?_eq_getElem (by omega)]; rfl
      have sn := picks_snoc (fun e => decide (e.stop = i)) he1 hf1
      refine ⟨Tt, _, rfl, SqT.of upd_same, rfl, _, _, rfl, _, _, rfl, rfl, rfl, ?_⟩
      generalize upd H6 Tt (.tup [.int (i1 : Nat), y0]) = H7 at *
      have hT7 := k7.sqT FreeS.nil.t hT1
      refine ⟨_, rfl, ?_⟩
      refine ixd (i := 2) hde rfl fun w hw => ?_
      cases dp_int hw
      refine ⟨_, rfl, rfl, _, rfl, ?_⟩
      refine ite2 (fun c1 => ?_) (fun c1 => ?_)
      · have c1' : e1.stop = i := by have := V.int.inj (of_decide_eq_true c1); omega
        refine ⟨_, rfl, _, rfl, ta, _, _, _, rfl, rfl, hT7, atI_nat (intsOf_at (by omega)), ?_⟩
        refine ⟨_, D7, sm' (by unfold intsOf; rw [List.length_map]; have := picks_len (fun e => decide (e.stop = i)) (es.take i1) (fl.take i1); have hle : (es.take i1).length ≤ es.length := (by rw [List.length_take]; omega); omega), fun g hgo hg1 hg2 => ?_, ?_⟩
        · rw [upd_ne (ne_of_none hg2 hD)]
          exact k7 _ _ hg1 hg2
        · rw [upd_same, sn, if_pos (decide_eq_true c1')]
          unfold intsOf
          rw [List.map_append]
          rfl
      · refine ⟨k7, ?_⟩
        rw [sn, if_neg (fun z => c1 (decide_eq_true (congrArg V.int (by have := of_decide_eq_true z; omega)))), List.append_nil]
        exact D7
    · rintro H6 ⟨k6, hD6⟩
      rw [List.take_of_length_le (by omega), List.take_of_length_le (by omega)] at hD6
      refine ⟨D, _, rfl, SqL.of hD6, ?_⟩
      have hm6 := hm1.kp0 k6
      have hT6 := k6.sqT FreeS.nil.t hT1
      refine ⟨_, rfl, m, _, rfl, DGet.k (k := Sum.inr "edges") hm6.hm, l, xs, rfl, SqL.of hm6.hl, fun D2 hD2 => ?_⟩
      refine lc_it (walk_enum (xs := xs)) (fun i2 H' => Kp [] H6 H' ∧ H' D2 = some (.lst (intsOf (picks (fun e => decide (e.start = i)) (es.take i2) (fl.take i2))))) ⟨Kp.new hD2, upd_same⟩ (fun i H' _ ⟨kk, _⟩ => SqL.of (kk.at hm6.hl (by simp))) ?_ ?_
      · rintro i1 xx H8 H7 hi1 ⟨k8, hD8⟩ ⟨Tt, x0, y0, rfl, hTt, rfl, hx0, hy0⟩
        cases hx0
        have k7 : Kp [] H6 (upd H8 Tt (.tup [.int (i1 : Nat), y0])) := k8.trans (Kp.new hTt)
        obtain ⟨e1, he1, hde⟩ := dpA_map (k7.dpA FreeS.nil hm6.ha) hy0
        have D7 := (Kp.new (M := []) (o := .tup [.int (i1 : Nat), y0]) hTt).at hD8 (by simp)
        have hf1 : fl[i1]? = some (fl.getD i1 0) := by rw [List.getD_eq_getElem?_getD, List.getElem?_eq_getElem (by omega)]; rfl
        have sn := picks_snoc (fun e => decide (e.start = i)) he1 hf1
        refine ⟨Tt, _, rfl, SqT.of upd_same, rfl, _, _, rfl, _, _, rfl, rfl, rfl, ?_⟩
        generalize upd H8 Tt (.tup [.int (i1 : Nat), y0]) = H7 at *
        have hT7 := k7.sqT FreeS.nil.t hT6
        refine ⟨_, rfl, ?_⟩
        refine ixd (i := 0) hde rfl fun w hw => ?_
        cases dp_int hw
        refine ⟨_, rfl, rfl, _, rfl, ?_⟩
        refine ite2 (fun c1 => ?_) (fun c1 => ?_)
        · have c1' : e1.start = i := by have := V.int.inj (of_decide_eq_true c1); omega
          refine ⟨_, rfl, _, rfl, ta, _, _, _, rfl, rfl, hT7, atI_nat (intsOf_at (by omega)), ?_⟩
          refine ⟨_, D7, sm' (by unfold intsOf; rw [List.length_map]; have := picks_len (fun e => decide (e.start = i)) (es.take i1) (fl.take i1); have hle : (es.take i1).length ≤ es.length := (by rw [List.length_take]; omega); omega), fun g hgo hg1 hg2 => ?_, ?_⟩
          · rw [upd_ne (ne_of_none hg2 hD2)]
            exact k7 _ _ hg1 hg2
          · rw [upd_same, sn, if_pos (decide_eq_true c1')]
            unfold intsOf
            rw [List.map_append]
            rfl
        · refine ⟨k7, ?_⟩
          rw [sn, if_neg (fun z => c1 (decide_eq_true (congrArg V.int (by have := of_decide_eq_true z; omega)))), List.append_nil]
          exact D7
      · rintro H8 ⟨k8, hD8⟩
        rw [List.take_of_length_le (by omega), List.take_of_length_le (by omega)] at hD8
        refine ⟨D2, _, rfl, SqL.of hD8, ?_⟩
        have k18 := k1.trans (k6.trans k8)
        refine ⟨_, rfl, ?_⟩
        refine ⟨fun v H' => H8 = H' ∧ v = .int (one (i = 0) * (many : Int)), ?_, ?_⟩
        · refine ⟨_, rfl, rfl, _, rfl, ?_⟩
          refine ite2 (fun c => ?_) (fun c => ?_)
          · have : i = 0 := by have := V.int.inj (of_decide_eq_true c); omega
            refine ⟨_, rfl, rfl, ?_⟩
            unfold one
            rw [if_pos this, Int.one_mul]
          · have : ¬ i = 0 := fun z => c (decide_eq_true (congrArg V.int (by omega)))
            refine ⟨rfl, ?_⟩
            unfold one
            rw [if_neg this, Int.zero_mul]
        rintro _ _ ⟨rfl, rfl⟩
        refine ⟨_, _, rfl, rfl, _, rfl, ?_⟩
        refine ⟨fun v H' => H8 = H' ∧ v = .int (one (i = 1) * (many : Int)), ?_, ?_⟩
        · refine ⟨_, rfl, rfl, _, rfl, ?_⟩
          refine ite2 (fun c => ?_) (fun c => ?_)
          · have : i = 1 := by have := V.int.inj (of_decide_eq_true c); omega
            refine ⟨_, rfl, rfl, ?_⟩
            unfold one
            rw [if_pos this, Int.one_mul]
          · have : ¬ i = 1 := fun z => c (decide_eq_true (congrArg V.int (by omega)))
            refine ⟨rfl, ?_⟩
            unfold one
            rw [if_neg this, Int.zero_mul]
        rintro _ _ ⟨rfl, rfl⟩
        refine ⟨_, _, rfl, rfl, rfl, _, rfl, ?_⟩
        have eq := hx i
        refine iteNS (congrArg V.int eq) ?_
        exact ⟨_, _, _, _, _, rfl, k18⟩
  · rintro _ H1 ⟨v3, v4, v5, v6, v7, rfl, k1⟩
    exact q H1 k1
theorem pen_ok (T : Txt K mg) : C8.Cal P w K mg base 1 "_law_pen" (spPen K) [] := by
  have nd := sc_pen.nd
  refine calD T.d__law_pen sc_pen (fun vs H Q E h => ?_) (fun f cdv A outer s0 H vs Q E hr h => ?_)
  · obtain ⟨a, ns, rfl, _⟩ := h
    rfl
  obtain ⟨a, ns, rfl, hS, hl, q⟩ := h
  have hu := hu_of hr
  refine ⟨_, (pss_cons (ps_asg pe_int (pg_name (i := 1) nd rfl (Or.inl rfl)))
  (pss_cons (ps_for PassesOwn.never rfl (pi_list (pv 0)) (pg_name (i := 2) nd rfl (Or.inl rfl))
    (pss_one (ps_asg (pe_op op_mod (pe_callTy (T := "int") call_int1 (by rfl) T.z_int (by decide +kernel) (pa_cons (pe_op op_add (pe_op op_mul (pv 1) pe_int) (pv 2)) pa_nil)) pe_int) (pg_name (i := 1) nd rfl (Or.inl rfl)))))
  (pss_one (ps_ret (pe_disp (pps_cons pe_str (pe_callTy (T := "list") call_list_of (by rfl) T.z_list (by decide +kernel) (pa_cons (pv 0) pa_nil)) (pps_cons pe_str pe_int (pps_cons pe_str pe_int (pps_cons pe_str pe_int (pps_cons pe_str (pv 1) pps_nil))))) rfl rfl (List.cons_ne_nil _ _) (by decide)))))), ?_⟩
  refine ⟨_, rfl, a, rfl, ⟨_, hS⟩, ?_⟩
  refine for_list (xs := ns.map V.int) (fun i σ H' => H = H' ∧ ∃ (fo : Int) (v2 : Option V), σ = [some (.ref a), some (.int fo), v2] ∧ 0 ≤ fo ∧ fo < 1000000007) ⟨rfl, 0, _, rfl, by decide, by decide⟩ (fun i σ H' _ ⟨e, _⟩ => e ▸ hS) ?_ ?_
  · rintro i x _ _ hx ⟨rfl, fo, v2, rfl, f0, f1⟩
    rw [List.getElem?_map] at hx
    obtain ⟨y, hy, rfl⟩ := Option.map_eq_some_iff.mp hx
    refine ⟨_, rfl, _, _, rfl, rfl, .inl ⟨by omega, by omega⟩, _, rfl, _, _, rfl, rfl, .inl ⟨_, rfl, ?_⟩⟩
    refine ⟨_, _, rfl, rfl, (by show (0 : Int) < 1000000007; decide), ?_⟩
    exact ⟨rfl, _, _, rfl, by omega, by omega⟩
  · rintro _ _ ⟨rfl, fo, v2, rfl, f0, f1⟩
    refine fun p hp => ⟨_, rfl, a, _, rfl, .inl ((Kp.new (M := []) hp).sqL FreeS.nil hS), fun l hl => ?_⟩
    refine ⟨_, rfl, ?_⟩
    have p1 : (upd (upd H p (.dK [])) l (.lst (ns.map V.int))) p = some (.dK []) := by rw [upd_ne (ne_of_none upd_same hl)]; exact upd_same
    refine ⟨p1, penK l 0 0 0 fo, rfl, by show 5 ≤ 15; decide, ?_⟩
    have lp : l ≠ p := (ne_of_none (upd_same (H := H) (o := .dK [])) hl).symm
    have hl0 : H l = none := (Kp.new (M := []) (o := .dK []) hp).free hl
    refine q ⟨p, l⟩ _ (fun g o hg1 hg2 => ?_) hp hl0 ⟨0, 0, 0, fo, ns, upd_same, ?_, by decide, by omega, by decide, by decide, by decide, f0, by omega⟩
    · rw [upd_ne (ne_of_none hg2 hp)]
      exact ((Kp.new (M := []) hp).trans (Kp.new hl)) _ _ hg1 hg2
    · show (upd _ p _) l = _
      rw [upd_ne lp]
      exact upd_same
theorem far_ok (T : Txt K mg) : C8.Cal P w K mg base 3 "_law_far" spFar [] := by
  have nd := sc_far.nd
  have c__law_draw := draw_ok (P := P) (w := w) (base := base) T
  have c__law_pick := pick_ok (P := P) (w := w) (base := base) T
  refine calD T.d__law_far sc_far (fun vs H Q E h => ?_) (fun f cdv A outer s0 H vs Q E hr h => ?_)
  · obtain ⟨p, n, rfl, _⟩ := h
    rfl
  obtain ⟨p, n, rfl, hP, hn, q⟩ := h
  have hu := hu_of hr
  refine ⟨_, (pss_cons (ps_par3 (i := 1) (j := 2) (l := 3) rfl nd rfl rfl rfl (by decide) (by decide) (by decide) rfl rfl rfl (pa_cons (pe_op op_sub pe_int (pe_op op_mul pe_int (pe_c c__law_draw hr (by omega) rfl (pa_cons (pv 0) (pa_cons pe_int pa_nil))))) (pa_cons (pe_c c__law_pick hr (by omega) rfl (pa_cons (pv 0) (pa_cons (pe_lst (pa_cons pe_int (pa_cons pe_int (pa_cons pe_int (pa_cons pe_int (pa_cons pe_int pa_nil)))))) pa_nil))) (pa_cons (pe_c c__law_draw hr (by omega) rfl (pa_cons (pv 0) (pa_cons pe_int pa_nil))) pa_nil))) (by rfl))
  (pss_cons (ps_for PassesOwn.never rfl (pi_range1 rfl T.z_range (pa_cons (pv 2) pa_nil)) (pg_name (i := 4) nd rfl (Or.inl rfl))
    (pss_one (ps_asg (pe_op op_add (pe_op op_mul (pv 3) (pe_op op_pow pe_int pe_int)) (pe_c c__law_draw hr (by omega) rfl (pa_cons (pv 0) (pa_cons (pe_op op_pow pe_int pe_int) pa_nil)))) (pg_name (i := 3) nd rfl (Or.inl rfl)))))
  (pss_one (ps_ret (pe_op op_mul (pv 1) (pv 3)))))), ?_⟩
  refine ⟨_, rfl, p, _, n, rfl, hP, by omega, by decide, by decide, fun r H1 r0 r1 k1 hP1 => ?_⟩
  refine ⟨_, _, rfl, rfl, .inl ⟨by decide, by decide⟩, _, _, rfl, rfl, ?_⟩
  refine ⟨_, rfl, (by show 5 ≤ sizeLine; decide), fun t ht => ?_⟩
  refine ⟨p, t, _, _, rfl, SqL.of upd_same, by show 0 < 5; decide, by show 5 < 1000000; decide, hP1.new ht, by omega, fun v H2 hv k2 hP2 => ?_⟩
  have hv2 : ∃ c : Nat, c ≤ 9 ∧ v = .int (c : Nat) := by
    simp only [List.mem_cons, List.not_mem_nil, or_false] at hv
    rcases hv with rfl | rfl | rfl | rfl | rfl
    · exact ⟨0, by decide, rfl⟩
    · exact ⟨0, by decide, rfl⟩
    · exact ⟨1, by decide, rfl⟩
    · exact ⟨3, by decide, rfl⟩
    · exact ⟨9, by decide, rfl⟩
  obtain ⟨c, hc, rfl⟩ := hv2
  refine ⟨_, rfl, p, _, _, rfl, hP2, by omega, by decide, by decide, fun r3 H3 r30 r31 k3 hP3 => ?_⟩
  have k13 : Kp [p] H H3 := k1.trans ((Kp.new ht).trans (k2.trans k3))
  refine ⟨_, _, _, rfl, ?_⟩
  refine ⟨_, rfl, _, rfl, by omega, by omega, ?_⟩
  refine for_range (n := ((c : Nat) : Int).toNat) (fun i σ H' => ∃ (fa : Int) (v4 : Option V), σ = [some (.ref p), some (.int (1 - 2 * r)), some (.int (c : Nat)), some (.int fa), v4] ∧ Kp [p] H H' ∧ PenAt H' p (n + 3 + i)) ⟨r3, _, rfl, k13, hP3⟩ ?_ ?_
  · rintro i _ H4 hi ⟨fa, v4, rfl, k4, hP4⟩
    refine ⟨_, rfl, _, _, rfl, rfl, ⟨by decide, by decide, by decide⟩, _, _, rfl, rfl, .inr ⟨by decide, by decide⟩, ?_⟩
    refine ⟨_, rfl, _, _, rfl, rfl, ⟨by decide, by decide, by decide⟩, ?_⟩
    refine ⟨p, _, _, rfl, hP4, by omega, by decide, by decide, fun r5 H5 r50 r51 k5 hP5 => ?_⟩
    refine ⟨_, _, rfl, rfl, ?_⟩
    exact ⟨_, _, rfl, k4.trans k5, hP5⟩
  · rintro _ H4 ⟨fa, v4, rfl, k4, hP4⟩
    refine ⟨_, rfl, _, rfl, _, _, rfl, rfl, .inl ⟨by omega, by omega⟩, ?_⟩
    exact q _ H4 k4 (hP4.le (by omega))
theorem inputs_ok (T : Txt K mg) : C8.Cal P w K mg base 4 "_law_inputs" (spInputs K) [] := by
  have nd := sc_inputs.nd
  have c__law_draw := draw_ok (P := P) (w := w) (base := base) T
  have c__law_pick := pick_ok (P := P) (w := w) (base := base) T
  have c__law_far := far_ok (P := P) (w := w) (base := base) T
  refine calD T.d__law_inputs sc_inputs (fun vs H Q E h => ?_) (fun f cdv A outer s0 H vs Q E hr h => ?_)
  · obtain ⟨p, v, N, k, b, n, rfl, _⟩ := h
    rfl
  obtain ⟨p, v, N, k, b, n, rfl, hk, hv, hP, hn, q⟩ := h
  have hu := hu_of hr
  refine ⟨_, (pss_one (ps_ret (pe_callTy (T := "tuple") call_tuple_of (by rfl) T.z_tuple (by decide +kernel) (pa_cons (pe_lc (own := [("_law_name", 2)]) rfl nd (pi_tup (pe_ixc ix_tup (pv 1))) (blkOk_by (N := ["_law_pen_here", "_law_told", "_law_name"]) (sc := C8.fnScope (topS 82)) (by decide +kernel)) (fun _ _ _ _ _ => (pg_name (i := 2) nd rfl (Or.inl rfl))) (fun _ _ _ _ _ => pts_nil) (fun _ _ _ _ _ => (pe_c c__law_pick hr (by omega) rfl (pa_cons (pv 0) (pa_cons (pe_lst (pa_cons (pe_op op_sub (pe_c c__law_draw hr (by omega) rfl (pa_cons (pv 0) (pa_cons pe_int pa_nil))) pe_int) (pa_cons (pe_c c__law_far hr (by omega) rfl (pa_cons (pv 0) pa_nil)) pa_nil))) pa_nil))))) pa_nil)))), ?_⟩
  refine ⟨_, rfl, ?_⟩
  refine ixd (i := 0) hv rfl fun w hw => ?_
  obtain ⟨a, xs, rfl, hSa, hA⟩ := dp_tup hw
  have xl := dpA_len hA
  rw [List.length_map] at xl
  refine ⟨a, rfl, ⟨xs, hSa⟩, fun D hD => ?_⟩
  refine lc_tup (xs := xs) (fun i H' => Kp [p] H H' ∧ PenAt H' p (n + i * 14) ∧ ∃ is : List Int, is.length = i ∧ H' D = some (.lst (intsOf is))) ⟨Kp.new hD, by rw [Nat.zero_mul]; exact hP.new hD, [], rfl, upd_same⟩ (fun i H' _ ⟨k, _⟩ => k.sqT hP.frees.t hSa) ?_ ?_
  · rintro i x H1 hx ⟨k1, hP1, is, hil, hD1⟩
    have hi := (List.getElem?_eq_some_iff.mp hx).1
    refine ⟨rfl, ?_⟩
    refine ⟨_, rfl, _, rfl, p, _, _, rfl, hP1, by omega, by decide, by decide, fun r H2 r0 r1 k2 hP2 => ?_⟩
    refine ⟨_, _, rfl, rfl, ?_⟩
    refine ⟨_, rfl, p, _, rfl, hP2, by omega, fun j H3 k3 hP3 => ?_⟩
    refine ⟨(by show 2 ≤ sizeLine; decide), fun t ht => ?_⟩
    refine ⟨p, t, _, _, rfl, SqL.of upd_same, by show 0 < 2; decide, by show 2 < 1000000; decide, hP3.new ht, by omega, fun y H4 hy k4 hP4 => ?_⟩
    have hy2 : ∃ z : Int, y = .int z := by
      simp only [List.mem_cons, List.not_mem_nil, or_false] at hy
      rcases hy with rfl | rfl
      · exact ⟨_, rfl⟩
      · exact ⟨_, rfl⟩
    obtain ⟨z, rfl⟩ := hy2
    have k14 : Kp [p] H1 H4 := k2.trans (k3.trans ((Kp.new ht).trans k4))
    have D4 := hP1.l k14 hD1
    refine ⟨_, D4, sm' (by unfold intsOf; rw [List.length_map]; omega), fun g o hg1 hg2 => ?_, ?_, is ++ [z], by rw [List.length_append, hil]; rfl, ?_⟩
    · rw [upd_ne (ne_of_none hg2 hD)]
      exact (k1.trans k14) _ _ hg1 hg2
    · have zz := hP4.keep (Kp.put (p := D) (M := [D]) (o := .lst (intsOf is ++ [.int z])) (by simp)) (hP.not hD).1 (hP.not hD).2
      exact zz.le (by omega)
    · rw [upd_same]
      unfold intsOf
      rw [List.map_append]
      rfl
  · rintro H1 ⟨k1, hP1, is, hil, hD1⟩
    refine ⟨D, _, rfl, .inl ⟨SqL.of hD1, fun t ht => ?_⟩⟩
    refine q is _ _ (by omega) (dp_new upd_same (dpA_ints is)) (k1.trans (Kp.new ht)) ((hP1.new ht).le (by omega))
end
end Sv
end
section
set_option Elab.async false
set_option linter.all false
set_option autoImplicit false
set_option maxRecDepth 100000
/-! W16: relisted data. -/
namespace Sv
open PySem PySem.Spec PyProof.Rows L2
open C8 (pe_c pe_mt pe_mt0 pe_mk pe_gc)
mutual
/-- lists read as tuples -/
def norm : PyData → PyData
  | .none => .none
  | .bool b => .bool b
  | .int i => .int i
  | .str x => .str x
  | .list ds => .tuple (normA ds)
  | .tuple ds => .tuple (normA ds)
  | .dict kv => .dict kv
def normA : List PyData → List PyData
  | [] => []
  | d :: ds => norm d :: normA ds
/-- how many tuples -/
def tups : PyData → Nat
  | .none => 0
  | .bool _ => 0
  | .int _ => 0
  | .str _ => 0
  | .list _ => 0
  | .tuple ds => tupsA ds + 1
  | .dict _ => 0
def tupsA : List PyData → Nat
  | [] => 0
  | d :: ds => tups d + tupsA ds
end
theorem normA_app : ∀ a b : List PyData, normA (a ++ b) = normA a ++ normA b
  | [], b => by rw [normA]; rfl
  | d :: a, b => by rw [List.cons_append, normA, normA, normA_app a b]; rfl
theorem normA_map : ∀ a : List PyData, normA a = a.map norm
  | [] => by rw [normA]; rfl
  | d :: a => by rw [normA, normA_map a]; rfl
theorem tupsA_app : ∀ a b : List PyData, tupsA (a ++ b) = tupsA a + tupsA b
  | [], b => by rw [tupsA, List.nil_append, Nat.zero_add]
  | d :: a, b => by rw [List.cons_append, tupsA, tupsA, tupsA_app a b, Nat.add_assoc]
theorem tupsA_take (ds : List PyData) {i : Nat} {d : PyData} (h : ds[i]? = some d) : tupsA (ds.take (i + 1)) = tupsA (ds.take i) + tups d := by
  rw [List.take_add_one, h, tupsA_app]
  show _ + tupsA [d] = _
  rw [tupsA, tupsA, Nat.add_zero]
theorem tupsA_le : ∀ (ds : List PyData) (i : Nat), tupsA (ds.take i) ≤ tupsA ds
  | ds, 0 => by rw [List.take_zero, tupsA]; exact Nat.zero_le _
  | [], i + 1 => Nat.le_refl _
  | d :: ds, i + 1 => by
    have := tupsA_le ds i
    rw [List.take_succ_cons, tupsA, tupsA]
    omega
theorem norm_atom : ∀ {d : PyData}, tups d = 0 → tu d = true → norm d = d
  | .none, _, _ => by rw [norm]
  | .bool _, _, _ => by rw [norm]
  | .int _, _, _ => by rw [norm]
  | .str _, _, _ => by rw [norm]
  | .list _, _, h => by simp [tu] at h
  | .tuple _, h, _ => by rw [tups] at h; omega
  | .dict _, _, _ => by rw [norm]
mutual
/-- no tuple is long -/
def slim : PyData → Bool
  | .none => true
  | .bool _ => true
  | .int _ => true
  | .str _ => true
  | .list _ => true
  | .tuple ds => decide (ds.length ≤ 1000) && slimA ds
  | .dict _ => true
def slimA : List PyData → Bool
  | [] => true
  | d :: ds => slim d && slimA ds
end
theorem slimA_mem : ∀ {l : List PyData}, slimA l = true → ∀ z ∈ l, slim z = true
  | [], _, z, hz => nomatch hz
  | y :: l, h, z, hz => by
    rw [slimA, Bool.and_eq_true] at h
    rcases List.mem_cons.mp hz with rfl | hz
    · exact h.1
    · exact slimA_mem h.2 z hz
theorem tuA_mem : ∀ {l : List PyData}, tuA l = true → ∀ z ∈ l, tu z = true
  | [], _, z, hz => nomatch hz
  | y :: l, h, z, hz => by
    rw [tuA, Bool.and_eq_true] at h
    rcases List.mem_cons.mp hz with rfl | hz
    · exact h.1
    · exact tuA_mem h.2 z hz
theorem depthA_mem : ∀ {l : List PyData}, ∀ z ∈ l, z.depth ≤ PyData.depthAll l
  | [], z, hz => nomatch hz
  | y :: l, z, hz => by
    rw [PyData.depthAll]
    rcases List.mem_cons.mp hz with rfl | hz
    · exact Nat.le_max_left _ _
    · exact Nat.le_trans (depthA_mem z hz) (Nat.le_max_right _ _)
/-- the heap without the lists that stood in H -/
def hideL (H H' : Hp) : Hp := fun a => match H a with
  | some (.lst _) => none
  | _ => H' a
section
variable {K : PySem.W.Frag} {H H0 H1 H2 H' : Hp} {a p : Addr} {o u : HO} {v : V} {d : PyData} {xs : List V}
theorem hideL_some (h : hideL H H' a = some u) : H' a = some u ∧ ∀ xs, H a ≠ some (.lst xs) := by
  unfold hideL at h
  split at h
  · cases h
  · rename_i hh
    exact ⟨h, fun xs z => hh xs z⟩
theorem hideL_of (h : H' a = some u) (hn : ∀ xs, H a ≠ some (.lst xs)) : hideL H H' a = some u := by
  unfold hideL
  split
  · rename_i q
    exact absurd q (hn _)
  · exact h
theorem dp_sub (k : ∀ a u, H1 a = some u → H2 a = some u) (h : Dp K H1 v d) : Dp K H2 v d := (show Kp [] H1 H2 from fun a u _ e => k a u e).dp FreeS.nil h
theorem dpA_sub {vs : List V} {ds : List PyData} (k : ∀ a u, H1 a = some u → H2 a = some u) (h : DpAll K H1 vs ds) : DpAll K H2 vs ds := (show Kp [] H1 H2 from fun a u _ e => k a u e).dpA FreeS.nil h
theorem hideL_out (h : Dp K (hideL H H') v d) : Dp K H' v d := dp_sub (fun a u e => (hideL_some e).1) h
theorem hideL_kp {M : List Addr} (k : Kp M H1 H2) : Kp M (hideL H H1) (hideL H H2) := fun a u n e => by
  obtain ⟨e1, e2⟩ := hideL_some e
  exact hideL_of (k a u n e1) e2
theorem hideL_put {xs : List V} (h : H a = some (.lst xs)) : hideL H (upd H' a o) = hideL H H' := by
  funext b
  unfold hideL
  by_cases c : b = a
  · rw [c, h]
  · rw [upd_ne c]
/-- data of tuples alone uses no list -/
theorem tu_hide (h : Dp K H v d) (ht : tu d = true) (k : Kp [p] H H') (f : ∀ xs, H p ≠ some (.tup xs)) (f2 : ∀ o xs, H p ≠ some (.frz o (.tup xs))) : Dp K (hideL H H') v d := by
  refine dp_monoT (fun a xs q => ?_) d v ht h
  rcases q with (q | ⟨o, q⟩) | q
  · refine .inl (.inl (hideL_of (k _ _ (fun z => ?_) q) fun ys z => by rw [q] at z; cases z))
    rw [List.mem_singleton] at z
    rw [z] at q
    exact f _ q
  · refine .inl (.inr ⟨o, hideL_of (k _ _ (fun z => ?_) q) fun ys z => by rw [q] at z; cases z⟩)
    rw [List.mem_singleton] at z
    rw [z] at q
    exact f2 _ _ q
  · exact .inr q
end
def spListed (K : PySem.W.Frag) : Sp := fun vs H Q _ => ∃ (p : Pn) (a : Addr) (xs : List V) (n : Nat), vs = [.ref p, .ref a] ∧ H a = some (.lst xs) ∧ PenAt H p n ∧ n + 1 ≤ penMax ∧
  ∀ (t : Addr) H', H t = none → (H' t = some (.tup xs) ∨ H' t = some (.lst xs)) → Kp [p] H H' → PenAt H' p (n + 1) → Q (.ref t) H'
def spRel (K : PySem.W.Frag) (m : Nat) : Sp := fun vs H Q _ => ∃ (p : Pn) (v : V) (d : PyData) (n : Nat), vs = [.ref p, v] ∧ Dp K H v d ∧ tu d = true ∧ slim d = true ∧ d.depth < m ∧ PenAt H p n ∧ n + tups d ≤ penMax ∧
  ∀ (v' : V) (d' : PyData) H', norm d' = d → Dp K (hideL H H') v' d' → Kp [p] H H' → PenAt H' p (n + tups d) → Q v' H'
theorem sc_listed : FnScope ["_law_pen_here", "_law_row"] ["_law_pen_here", "_law_row"] (C8.fnScope (topS 64)) := C8.fnScope_by (by decide +kernel)
theorem sc_rel : FnScope ["_law_pen_here", "_law_value", "_law_item"] ["_law_pen_here", "_law_value"] (C8.fnScope (topS 80)) := C8.fnScope_by (by decide +kernel)
theorem tyx_seq {K : PySem.W.Frag} {H : Hp} {a : Addr} {xs : List V} (h : SqT K H a xs) : TyX K H (.ref a) (.type "tuple") := by
  rcases h with (h | ⟨o, h⟩) | ⟨o, its, n, h1, h2, _⟩
  · exact .base (.tup h)
  · exact .fTuple h
  · exact .kTuple h1 h2
theorem tyx_lst {K : PySem.W.Frag} {H : Hp} {a : Addr} {xs : List V} (h : SqL K H a xs) : TyX K H (.ref a) (.type "list") := by
  rcases h with (h | ⟨o, h⟩) | ⟨o, its, n, h1, h2, _⟩
  · exact .base (.lst h)
  · exact .base (.frz h)
  · exact .kList h1 h2
section
variable {P : Program} {w : World} {K : PySem.W.Frag} {mg : Str → Option Value} {base : Heap}
set_option maxHeartbeats 1000000
theorem listed_ok (T : Txt K mg) : C8.Cal P w K mg base 3 "_law_listed" (spListed K) [] := by
  have nd := sc_listed.nd
  have c__law_pick := pick_ok (P := P) (w := w) (base := base) T
  refine calD T.d__law_listed sc_listed (fun vs H Q E h => ?_) (fun f cdv A outer s0 H vs Q E hr h => ?_)
  · obtain ⟨p, a, xs, n, rfl, _⟩ := h
    rfl
  obtain ⟨p, a, xs, n, rfl, ha, hP, hn, q⟩ := h
  have hu := hu_of hr
  refine ⟨_, (pss_one (ps_ret (pe_c c__law_pick hr (by omega) rfl (pa_cons (pv 0) (pa_cons (pe_lst (pa_cons (pe_callTy (T := "tuple") call_tuple_of (by rfl) T.z_tuple (by decide +kernel) (pa_cons (pv 1) pa_nil)) (pa_cons (pe_callTy (T := "list") call_list_of (by rfl) T.z_list (by decide +kernel) (pa_cons (pv 1) pa_nil)) pa_nil))) pa_nil))))), ?_⟩
  refine ⟨_, rfl, _, rfl, a, _, rfl, .inl ⟨SqL.of ha, fun t ht => ?_⟩⟩
  have ha1 : (upd H t (.tup xs)) a = some (.lst xs) := by rw [upd_ne (ne_of_none ha ht)]; exact ha
  refine ⟨_, rfl, a, _, rfl, .inl (SqL.of ha1), fun l hl => ?_⟩
  refine ⟨(by show 2 ≤ sizeLine; decide), fun u hu1 => ?_⟩
  have hl0 : H l = none := (Kp.new (M := []) (o := .tup xs) ht).free hl
  have k0 : Kp [p] H (upd (upd (upd H t (.tup xs)) l (.lst xs)) u (.lst [.ref t, .ref l])) := (Kp.new ht).trans ((Kp.new hl).trans (Kp.new hu1))
  have t3 : (upd (upd (upd H t (.tup xs)) l (.lst xs)) u (.lst [.ref t, .ref l])) t = some (.tup xs) := ((Kp.new (M := []) hl).trans (Kp.new hu1)).at upd_same (by simp)
  have l3 : (upd (upd (upd H t (.tup xs)) l (.lst xs)) u (.lst [.ref t, .ref l])) l = some (.lst xs) := (Kp.new (M := []) hu1).at upd_same (by simp)
  have hP3 := ((hP.new (o := .tup xs) ht).new (o := .lst xs) hl).new (o := .lst [.ref t, .ref l]) hu1
  refine ⟨p, u, _, n, rfl, SqL.of upd_same, by show 0 < 2; decide, by show 2 < 1000000; decide, hP3, by omega, fun y H4 hy k4 hP4 => ?_⟩
  simp only [List.mem_cons, List.not_mem_nil, or_false] at hy
  rcases hy with rfl | rfl
  · refine q t H4 ht (.inl (k4 _ _ (fun z => ?_) t3)) (k0.trans k4) hP4
    rw [List.mem_singleton] at z
    have := hP3.frees p.a (by simp)
    rw [← z, t3] at this
    cases this
  · exact q l H4 hl0 (.inr (hP3.l k4 l3)) (k0.trans k4) hP4
theorem rel_step (T : Txt K mg) (m : Nat) (c__law_relisted : C8.Cal P w K mg base (4 + m) "_law_relisted" (spRel K m) []) : C8.Cal P w K mg base (4 + m + 1) "_law_relisted" (spRel K (m + 1)) [] := by
  have nd := sc_rel.nd
  have c__law_listed := listed_ok (P := P) (w := w) (base := base) T
  refine calD T.d__law_relisted sc_rel (fun vs H Q E h => ?_) (fun f cdv A outer s0 H vs Q E hr h => ?_)
  · obtain ⟨p, v, d, n, rfl, _⟩ := h
    rfl
  obtain ⟨p, v, d, n, rfl, hd, ht, hsl, hdep, hP, hn, q⟩ := h
  have hu := hu_of hr
  refine ⟨_, (pss_cons (ps_if (pt_not (pt_val (pe_callB (id := "isinstance") call_isi (by rfl) T.z_isinstance (by decide +kernel) (pa_cons (pv 1) (pa_cons (pe_bltn (v := .ty "tuple") rfl T.z_tuple (by decide +kernel) rfl) pa_nil))))) (pss_one (ps_ret (pv 1))) pss_nil)
  (pss_one (ps_ret (pe_c c__law_listed hr (by omega) rfl (pa_cons (pv 0) (pa_cons (pe_lc (own := [("_law_item", 2)]) rfl nd (pi_tup (pv 1)) (blkOk_by (N := ["_law_pen_here", "_law_value", "_law_item"]) (sc := C8.fnScope (topS 80)) (by decide +kernel)) (fun _ _ _ _ _ => (pg_name (i := 2) nd rfl (Or.inl rfl))) (fun _ _ _ _ _ => pts_nil) (fun _ _ _ _ _ => (pe_c c__law_relisted hr (by omega) rfl (pa_cons (pv 0) (pa_cons (pv 2) pa_nil))))) pa_nil)))))), ?_⟩
  have fp : (∀ xs, H p.a ≠ some (.tup xs)) ∧ (∀ o xs, H p.a ≠ some (.frz o (.tup xs))) := by
    obtain ⟨kv, e⟩ := hP.dK
    constructor
    · intro xs z
      rw [e] at z
      cases z
    · intro o xs z
      rw [e] at z
      cases z
  have atom : tups d = 0 → Q v H := fun z => by
    have e := norm_atom z ht
    exact q v d H e (tu_hide hd ht Kp.refl fp.1 fp.2) Kp.refl (by rw [z]; exact hP)
  cases d with
  | none =>
    cases hd
    refine ⟨_, rfl, _, _, _, _, false, rfl, ClsV.ty _, TyX.base .non, kit_ty (b := "tuple") (by decide +kernel), _, rfl, iteT ?_⟩
    exact ⟨_, rfl, atom (by rw [tups])⟩
  | bool b =>
    cases hd
    refine ⟨_, rfl, _, _, _, _, false, rfl, ClsV.ty _, TyX.base (.bl b), kit_ty (b := "tuple") (by decide +kernel), _, rfl, iteT ?_⟩
    exact ⟨_, rfl, atom (by rw [tups])⟩
  | int i =>
    cases hd
    refine ⟨_, rfl, _, _, _, _, false, rfl, ClsV.ty _, TyX.base (.int i), kit_ty (b := "tuple") (by decide +kernel), _, rfl, iteT ?_⟩
    exact ⟨_, rfl, atom (by rw [tups])⟩
  | str x =>
    cases hd
    refine ⟨_, rfl, _, _, _, _, false, rfl, ClsV.ty _, TyX.base (.str x), kit_ty (b := "tuple") (by decide +kernel), _, rfl, iteT ?_⟩
    exact ⟨_, rfl, atom (by rw [tups])⟩
  | list ds => simp [tu] at ht
  | dict kv => cases hd
  | tuple ds =>
    obtain ⟨a, xs, rfl, hSa, hA⟩ := dp_tup hd
    have tA : tuA ds = true := by simpa [tu] using ht
    rw [slim, Bool.and_eq_true, decide_eq_true_eq] at hsl
    obtain ⟨lA, sA⟩ := hsl
    rw [tups] at hn q
    rw [PyData.depth] at hdep
    have xl := dpA_len hA
    refine ⟨_, rfl, _, _, _, _, true, rfl, ClsV.ty _, tyx_seq hSa, kit_ty (b := "tuple") (by decide +kernel), _, rfl, iteF ?_⟩
    refine ⟨_, rfl, _, rfl, a, rfl, ⟨xs, hSa⟩, fun D hD => ?_⟩
    have hD1 : (upd H D (.lst [])) D = some (.lst []) := upd_same
    refine lc_tup (xs := xs) (fun i H' => Kp [p] H H' ∧ PenAt H' p (n + tupsA (ds.take i)) ∧ ∃ (ys : List V) (es : List PyData), H' D = some (.lst ys) ∧ normA es = ds.take i ∧ DpAll K (hideL (upd H D (.lst [])) H') ys es) ⟨Kp.new hD, by rw [List.take_zero, tupsA]; exact hP.new hD, [], [], upd_same, by rw [normA]; rfl, .nil⟩ (fun i H' _ ⟨k, _⟩ => k.sqT hP.frees.t hSa) ?_ ?_
    · rintro i x H1 hx ⟨k1, hP1, ys, es, hD2, hes, hE⟩
      obtain ⟨di, hdi, hdx⟩ := dpA_at' hA hx
      obtain ⟨hil, hie⟩ := List.getElem?_eq_some_iff.mp hdi
      have htk := tupsA_take ds hdi
      have hle := tupsA_le ds (i + 1)
      have dmem := List.mem_of_getElem? hdi
      have dti := tuA_mem tA di dmem
      have ddi := depthA_mem di dmem
      have dsl := slimA_mem sA di dmem
      refine ⟨rfl, ?_⟩
      refine ⟨_, rfl, _, rfl, p, x, di, _, rfl, k1.dp hP.frees hdx, dti, dsl, by omega, hP1, by omega, fun y e H2 hne hy k2 hP2 => ?_⟩
      have D3 := hP1.l k2 hD2
      have elen : es.length = (ds.take i).length := by rw [← hes, normA_map, List.length_map]
      have ylen := dpA_len hE
      refine ⟨ys, D3, sm' (by rw [ylen, elen, List.length_take]; omega), ?_, ?_, ys ++ [y], es ++ [e], upd_same, ?_, ?_⟩
      · intro g o hg1 hg2
        rw [upd_ne (ne_of_none hg2 hD)]
        exact (k1.trans k2) _ _ hg1 hg2
      · have zz := hP2.keep (Kp.put (p := D) (M := [D]) (o := .lst (ys ++ [y])) (by simp)) (hP.not hD).1 (hP.not hD).2
        rw [htk, ← Nat.add_assoc]
        exact zz
      · rw [normA_app, hes, List.take_add_one, hdi, ← hne]
        rfl
      · rw [hideL_put hD1]
        have fp1 : FreeS [p] (hideL (upd H D (.lst [])) H1) := fun b hb => by
          rw [List.mem_singleton] at hb
          rw [hb]
          have := hP1.frees p.a (by simp)
          unfold hideL
          split
          · rfl
          · exact this
        refine dpA_app ((hideL_kp k2).dpA fp1 hE) (.cons (dp_sub (fun b u hb => ?_) hy) .nil)
        obtain ⟨b1, b2⟩ := hideL_some hb
        refine hideL_of b1 fun zs hz => ?_
        by_cases c : b = D
        · exact b2 _ (by rw [c]; exact hD2)
        · rw [upd_ne c] at hz
          exact b2 _ (hP.l k1 hz)
    · rintro H1 ⟨k1, hP1, ys, es, hD2, hes, hE⟩
      rw [List.take_of_length_le (by omega)] at hes hP1
      refine ⟨p, D, ys, _, rfl, hD2, hP1, by omega, fun t H2 ht0 htt k2 hP2 => ?_⟩
      have fp1 : FreeS [p] (hideL (upd H D (.lst [])) H1) := fun b hb => by
        rw [List.mem_singleton] at hb
        rw [hb]
        have := hP1.frees p.a (by simp)
        unfold hideL
        split
        · rfl
        · exact this
      have hE2 : DpAll K (hideL H H2) ys es := by
        refine dpA_sub (fun b u hb => ?_) ((hideL_kp k2).dpA fp1 hE)
        obtain ⟨b1, b2⟩ := hideL_some hb
        refine hideL_of b1 fun zs hz => ?_
        refine b2 zs ?_
        rw [upd_ne (ne_of_none hz hD)]
        exact hz
      have tn : ∀ zs, H t ≠ some (.lst zs) := fun zs hz => by
        have := hP.l k1 hz
        rw [this] at ht0
        cases ht0
      have k12 := k1.trans k2
      rw [← Nat.add_assoc] at q
      rcases htt with htt | htt
      · exact q (.ref t) (.tuple es) H2 (by rw [norm, hes]) (.tup (.inl (.inl (hideL_of htt tn))) hE2) k12 hP2
      · exact q (.ref t) (.list es) H2 (by rw [norm, hes]) (.lst (.inl (.inl (hideL_of htt tn))) hE2) k12 hP2
theorem rel_ok (T : Txt K mg) : ∀ m, C8.Cal P w K mg base (4 + m) "_law_relisted" (spRel K m) []
  | 0 => calVac T.d__law_relisted fun vs H Q E h => by
    obtain ⟨p, v, d, n, _, _, _, _, hd, _⟩ := h
    exact absurd hd (Nat.not_lt_zero _)
  | m + 1 => rel_step T m (rel_ok T m)
end
end Sv
end
section
set_option Elab.async false
set_option linter.all false
set_option autoImplicit false
set_option maxRecDepth 100000
/-! W17: the package's checks; tuples of any data. -/
namespace Sv
open PySem PySem.Spec PyProof.Rows L2
open C8 (pe_c pe_mt pe_mt0 pe_mk pe_gc)
/-- further facts of the names -/
structure Txe (K : PySem.W.Frag) (mg : Str → Option Value) (T : Txt K mg) : Type where
  ic_Edge : C8.InsC K T.C_Edge
  kn_Edge : PySem.W.kitAny K (.ref T.C_Edge) [.type "tuple", .type "list"] = some false
section
variable {X : Cx} {tg : Expr}
/-- a walk over a list or a tuple -/
def iSeq (K : PySem.W.Frag) (tl : TE) : TI := fun σ H R => tl σ H fun x H1 => ∃ a, x = .ref a ∧ (((∃ xs, SqL K H1 a xs) ∧ R (Itl K a) H1) ∨ ((∃ xs, SqT K H1 a xs) ∧ R (Itt K a) H1))
theorem pi_seq {l : Expr} {tl : TE} (hl : PE X l tl) : PI X tg l (iSeq X.K tl) := by
  refine ⟨fun pins s σ H R I h => ?_⟩
  refine thn (hl.run pins s σ H _ I h) fun v s1 ⟨x, H1, I1, r1, q1⟩ => ?_
  obtain ⟨a, e, q⟩ := q1
  subst e
  cases r1
  rcases q with ⟨⟨xs, hq⟩, q⟩ | ⟨⟨xs, hq⟩, q⟩
  · obtain ⟨its, rv, p, hz⟩ := I1.list hq
    refine wpAny_pyIter_list p.isList ?_
    refine ⟨s1.heap.objs.size, [s1.heap.objs.size], _, _, H1, rfl, I1.kept (t' := s1.toks) fun b o e => Heap.get?_push_of_some _ e, turn_list a _, ⟨_, Heap.get?_push_size _ rfl, rfl, rfl⟩, fun b hb => ?_, q⟩
    have e : b = s1.heap.objs.size := by simpa using hb
    subst e
    exact I1.fpOk (Nat.le_refl _) (I1.hok.fresh (Nat.le_refl _))
  · obtain ⟨its, rv, p, hz⟩ := I1.tuple hq
    refine wpAny_pyIter_tuple (show s1.heap.IsTuple a its.toArray from p) ?_
    refine ⟨s1.heap.objs.size, [s1.heap.objs.size], _, _, H1, rfl, I1.kept (t' := s1.toks) fun b o e => Heap.get?_push_of_some _ e, turn_tuple a _, ⟨_, Heap.get?_push_size _ rfl, rfl, rfl⟩, fun b hb => ?_, q⟩
    have e : b = s1.heap.objs.size := by simpa using hb
    subst e
    exact I1.fpOk (Nat.le_refl _) (I1.hok.fresh (Nat.le_refl _))
end
/-- a value's built-in type, by its name -/
def basics : List String := ["int", "bool", "NoneType", "str", "list", "tuple"]
def TyN (K : PySem.W.Frag) (H : Hp) (v : V) (t : String) : Prop := TyX K H v (.type t) ∧ t ∈ basics
def tyD : PyData → String
  | .none => "NoneType"
  | .bool _ => "bool"
  | .int _ => "int"
  | .str _ => "str"
  | .list _ => "list"
  | .tuple _ => "tuple"
  | .dict _ => "dict"
theorem dp_ty {K : PySem.W.Frag} {H : Hp} {v : V} : ∀ {d : PyData}, Dp K H v d → TyN K H v (tyD d)
  | .none, h => by cases h; exact ⟨.base .non, by decide⟩
  | .bool b, h => by cases h; exact ⟨.base (.bl b), by simp [tyD, basics]⟩
  | .int i, h => by cases h; exact ⟨.base (.int i), by simp [tyD, basics]⟩
  | .str x, h => by cases h; exact ⟨.base (.str x), by simp [tyD, basics]⟩
  | .list ds, h => by
    cases h with
    | lst hs ha => exact ⟨tyx_lst hs, by simp [tyD, basics]⟩
  | .tuple ds, h => by
    cases h with
    | tup hs ha => exact ⟨tyx_seq hs, by simp [tyD, basics]⟩
  | .dict _, h => by cases h
theorem kit_int : ∀ t ∈ basics, kitB t "int" = some (decide (t = "int" ∨ t = "bool")) := by
  intro t ht
  simp only [basics, List.mem_cons, List.not_mem_nil, or_false] at ht
  rcases ht with rfl | rfl | rfl | rfl | rfl | rfl <;> decide +kernel
theorem kit_bool : ∀ t ∈ basics, kitB t "bool" = some (decide (t = "bool")) := by
  intro t ht
  simp only [basics, List.mem_cons, List.not_mem_nil, or_false] at ht
  rcases ht with rfl | rfl | rfl | rfl | rfl | rfl <;> decide +kernel
theorem kit_str : ∀ t ∈ basics, kitB t "str" = some (decide (t = "str")) := by
  intro t ht
  simp only [basics, List.mem_cons, List.not_mem_nil, or_false] at ht
  rcases ht with rfl | rfl | rfl | rfl | rfl | rfl <;> decide +kernel
theorem kit_tup : ∀ t ∈ basics, kitB t "tuple" = some (decide (t = "tuple")) := by
  intro t ht
  simp only [basics, List.mem_cons, List.not_mem_nil, or_false] at ht
  rcases ht with rfl | rfl | rfl | rfl | rfl | rfl <;> decide +kernel
theorem kit_lst : ∀ t ∈ basics, kitB t "list" = some (decide (t = "list")) := by
  intro t ht
  simp only [basics, List.mem_cons, List.not_mem_nil, or_false] at ht
  rcases ht with rfl | rfl | rfl | rfl | rfl | rfl <;> decide +kernel
def isSeq (t : String) : Bool := decide (t = "tuple") || decide (t = "list")
theorem kit_seq {K : PySem.W.Frag} : ∀ t ∈ basics, PySem.W.kitAny K (.type t) [.type "tuple", .type "list"] = some (isSeq t) := by
  intro t ht
  refine kitAny_cons (kit_ty (kit_tup t ht)) (fun h => ?_) (fun h => ?_)
  · refine kitAny_cons (kit_ty (kit_lst t ht)) (fun h2 => ?_) (fun h2 => ?_)
    · unfold isSeq
      rw [h, h2]
      exact kitAny_nil
    · unfold isSeq
      rw [h2, Bool.or_true]
  · unfold isSeq
    rw [h, Bool.true_or]
theorem tyx_kp {K : PySem.W.Frag} {H H' : Hp} {v : V} {t : Value} (k : Kp [] H H') (h : TyX K H v t) : TyX K H' v t := by
  have kk : ∀ {a u}, H a = some u → H' a = some u := fun e => k.at e (by simp)
  cases h with
  | base b =>
    refine .base ?_
    cases b with
    | non => exact .non
    | bl b => exact .bl b
    | int i => exact .int i
    | str x => exact .str x
    | flt x => exact .flt x
    | lst e => exact .lst (kk e)
    | frz e => exact .frz (kk e)
    | tup e => exact .tup (kk e)
    | dK e => exact .dK (kk e)
    | dT e => exact .dT (kk e)
    | ins e cl ha hn htk hm => exact .ins (kk e) cl ha hn htk hm
  | byt b => exact .byt b
  | set e => exact .set (kk e)
  | kList e c => exact .kList e c
  | kTuple e c => exact .kTuple e c
  | kDict e c => exact .kDict e c
  | fTuple e => exact .fTuple (kk e)
  | fDict e => exact .fDict (kk e)
def spIsInt (K : PySem.W.Frag) : Sp := fun vs H Q _ => ∃ (v : V) (t : String), vs = [v] ∧ TyN K H v t ∧ Q (.bl (decide (t = "int"))) H
def spIsRow (K : PySem.W.Frag) (C : Addr) : Sp := fun vs H Q _ => ∃ (v : V), vs = [v] ∧ ((∃ t, TyN K H v t ∧ ∀ H', Kp [] H H' → Q (.bl (isSeq t)) H') ∨ (∃ a dx fs, v = .ref a ∧ H a = some (.ins C dx fs) ∧ ∀ H', Kp [] H H' → Q (.bl false) H'))
theorem sc_isint : FnScope ["value"] ["value"] (C8.fnScope (topS 8)) := C8.fnScope_by (by decide +kernel)
theorem sc_lisint : FnScope ["_law_value"] ["_law_value"] (C8.fnScope (topS 63)) := C8.fnScope_by (by decide +kernel)
theorem sc_isrow : FnScope ["value"] ["value"] (C8.fnScope (topS 9)) := C8.fnScope_by (by decide +kernel)
theorem sc_ast : FnScope ["value", "item"] ["value"] (C8.fnScope (topS 11)) := C8.fnScope_by (by decide +kernel)
section
variable {K : PySem.W.Frag} {H : Hp}
mutual
theorem norm_tu : ∀ (d : PyData) (v : V), Dp K H v d → tu (norm d) = true
  | .none, _, _ => by rw [norm]; rfl
  | .bool _, _, _ => by rw [norm]; rfl
  | .int _, _, _ => by rw [norm]; rfl
  | .str _, _, _ => by rw [norm]; rfl
  | .list ds, _, h => by
    cases h with
    | lst hs ha => rw [norm, tu]; exact norm_tuA ds _ ha
  | .tuple ds, _, h => by
    cases h with
    | tup hs ha => rw [norm, tu]; exact norm_tuA ds _ ha
  | .dict _, _, h => by cases h
theorem norm_tuA : ∀ (ds : List PyData) (vs : List V), DpAll K H vs ds → tuA (normA ds) = true
  | [], _, _ => by rw [normA]; rfl
  | d :: ds, _, h => by
    cases h with
    | cons h1 h2 => rw [normA, tuA, norm_tu d _ h1, norm_tuA ds _ h2]; rfl
end
end
/-- as_tuples: data; an edge; a list of edges -/
def spAsT (K : PySem.W.Frag) (C : Addr) (n : Nat) : Sp := fun vs H Q _ => ∃ (v : V), vs = [v] ∧ ((∃ d, Dp K H v d ∧ d.depth < n ∧ slim (norm d) = true ∧ ∀ v' H', Dp K H' v' (norm d) → Kp [] H H' → Q v' H') ∨
  (1 ≤ n ∧ ∃ a dx fs, v = .ref a ∧ H a = some (.ins C dx fs) ∧ ∀ H', Kp [] H H' → Q v H') ∨
  (2 ≤ n ∧ ∃ (l : Addr) (as : List Addr), v = .ref l ∧ SqL K H l (as.map V.ref) ∧ as.length ≤ 1000 ∧ (∀ a ∈ as, ∃ dx fs, H a = some (.ins C dx fs)) ∧ ∀ (t : Addr) H', H t = none → H' t = some (.tup (as.map V.ref)) → Kp [] H H' → Q (.ref t) H'))
section
variable {P : Program} {w : World} {K : PySem.W.Frag} {mg : Str → Option Value} {base : Heap}
set_option maxHeartbeats 1000000
theorem isint_ok (T : Txt K mg) : C8.Cal P w K mg base 1 "is_int" (spIsInt K) [] := by
  have nd := sc_isint.nd
  refine calD T.d_is_int sc_isint (fun vs H Q E h => ?_) (fun f cdv A outer s0 H vs Q E hr h => ?_)
  · obtain ⟨v, t, rfl, _⟩ := h
    rfl
  obtain ⟨v, t, rfl, ⟨ht, hb⟩, q⟩ := h
  have hu := hu_of hr
  refine ⟨_, (pss_one (ps_ret (pe_and (pe_callB (id := "isinstance") call_isi (by rfl) T.z_isinstance (by decide +kernel) (pa_cons (pv 0) (pa_cons (pe_bltn (v := .ty "int") rfl T.z_int (by decide +kernel) rfl) pa_nil))) (pe_one (pe_not (pe_callB (id := "isinstance") call_isi (by rfl) T.z_isinstance (by decide +kernel) (pa_cons (pv 0) (pa_cons (pe_bltn (v := .ty "bool") rfl T.z_bool (by decide +kernel) rfl) pa_nil)))))))), ?_⟩
  refine ⟨_, rfl, _, _, _, _, _, rfl, ClsV.ty _, ht, kit_ty (kit_int t hb), _, rfl, ?_⟩
  refine ite2 (fun c => ?_) (fun c => ?_)
  · refine ⟨_, rfl, _, _, _, _, _, rfl, ClsV.ty _, ht, kit_ty (kit_bool t hb), _, rfl, ?_⟩
    have c' := of_decide_eq_true c
    have e : (!decide (t = "bool")) = decide (t = "int") := by
      rcases c' with rfl | rfl <;> decide
    rw [e]
    exact q
  · have e : decide (t = "int") = false := decide_eq_false (fun z => c (decide_eq_true (.inl z)))
    rw [e] at q
    exact q
theorem lisint_ok (T : Txt K mg) : C8.Cal P w K mg base 1 "_law_is_int" (spIsInt K) [] := by
  have nd := sc_lisint.nd
  refine calD T.d__law_is_int sc_lisint (fun vs H Q E h => ?_) (fun f cdv A outer s0 H vs Q E hr h => ?_)
  · obtain ⟨v, t, rfl, _⟩ := h
    rfl
  obtain ⟨v, t, rfl, ⟨ht, hb⟩, q⟩ := h
  have hu := hu_of hr
  refine ⟨_, (pss_one (ps_ret (pe_and (pe_callB (id := "isinstance") call_isi (by rfl) T.z_isinstance (by decide +kernel) (pa_cons (pv 0) (pa_cons (pe_bltn (v := .ty "int") rfl T.z_int (by decide +kernel) rfl) pa_nil))) (pe_one (pe_not (pe_callB (id := "isinstance") call_isi (by rfl) T.z_isinstance (by decide +kernel) (pa_cons (pv 0) (pa_cons (pe_bltn (v := .ty "bool") rfl T.z_bool (by decide +kernel) rfl) pa_nil)))))))), ?_⟩
  refine ⟨_, rfl, _, _, _, _, _, rfl, ClsV.ty _, ht, kit_ty (kit_int t hb), _, rfl, ?_⟩
  refine ite2 (fun c => ?_) (fun c => ?_)
  · refine ⟨_, rfl, _, _, _, _, _, rfl, ClsV.ty _, ht, kit_ty (kit_bool t hb), _, rfl, ?_⟩
    have c' := of_decide_eq_true c
    have e : (!decide (t = "bool")) = decide (t = "int") := by
      rcases c' with rfl | rfl <;> decide
    rw [e]
    exact q
  · have e : decide (t = "int") = false := decide_eq_false (fun z => c (decide_eq_true (.inl z)))
    rw [e] at q
    exact q
theorem isrow_ok (T : Txt K mg) (Te : Txe K mg T) : C8.Cal P w K mg base 1 "is_row" (spIsRow K T.C_Edge) [] := by
  have nd := sc_isrow.nd
  refine calD T.d_is_row sc_isrow (fun vs H Q E h => ?_) (fun f cdv A outer s0 H vs Q E hr h => ?_)
  · obtain ⟨v, rfl, _⟩ := h
    rfl
  obtain ⟨v, rfl, h⟩ := h
  have hu := hu_of hr
  refine ⟨_, (pss_one (ps_ret (pe_callB (id := "isinstance") call_isiT (by rfl) T.z_isinstance (by decide +kernel) (pa_cons (pv 0) (pa_cons (pe_tup (pa_cons (pe_bltn (v := .ty "tuple") rfl T.z_tuple (by decide +kernel) rfl) (pa_cons (pe_bltn (v := .ty "list") rfl T.z_list (by decide +kernel) rfl) pa_nil))) pa_nil))))), ?_⟩
  refine ⟨_, rfl, (by show 2 ≤ sizeLine; decide), fun t ht => ?_⟩
  have k1 : Kp [] H (upd H t (.tup [.ty "tuple", .ty "list"])) := Kp.new ht
  rcases h with ⟨tt, ⟨hty, hb⟩, q⟩ | ⟨a, dx, fs, rfl, ha, q⟩
  · refine ⟨_, t, _, .type tt, [.type "tuple", .type "list"], _, rfl, upd_same, .cons (.ty _) (.cons (.ty _) .nil), ?_, kit_seq tt hb, q _ k1⟩
    exact tyx_kp k1 hty
  · refine ⟨_, t, _, .ref T.C_Edge, [.type "tuple", .type "list"], false, rfl, upd_same, .cons (.ty _) (.cons (.ty _) .nil), ?_, Te.kn_Edge, q _ k1⟩
    exact .base (.ins (k1.at ha (by simp)) Te.ic_Edge.cl Te.ic_Edge.ha Te.ic_Edge.hn Te.ic_Edge.htk Te.ic_Edge.hm)
theorem ast_step (T : Txt K mg) (Te : Txe K mg T) (n : Nat) (c_as_tuples : C8.Cal P w K mg base (2 + n) "as_tuples" (spAsT K T.C_Edge n) []) : C8.Cal P w K mg base (2 + n + 1) "as_tuples" (spAsT K T.C_Edge (n + 1)) [] := by
  have nd := sc_ast.nd
  have c_is_row := isrow_ok (P := P) (w := w) (base := base) T Te
  refine calD T.d_as_tuples sc_ast (fun vs H Q E h => ?_) (fun f cdv A outer s0 H vs Q E hr h => ?_)
  · obtain ⟨v, rfl, _⟩ := h
    rfl
  obtain ⟨v, rfl, h⟩ := h
  have hu := hu_of hr
  refine ⟨_, (pss_cons (ps_if (pt_val (pe_c c_is_row hr (by omega) rfl (pa_cons (pv 0) pa_nil))) (pss_one (ps_ret (pe_callTy (T := "tuple") call_tuple_of (by rfl) T.z_tuple (by decide +kernel) (pa_cons (pe_lc (own := [("item", 1)]) rfl nd (pi_seq (pv 0)) (blkOk_by (N := ["value", "item"]) (sc := C8.fnScope (topS 11)) (by decide +kernel)) (fun _ _ _ _ _ => (pg_name (i := 1) nd rfl (Or.inl rfl))) (fun _ _ _ _ _ => pts_nil) (fun _ _ _ _ _ => (pe_c c_as_tuples hr (by omega) rfl (pa_cons (pv 1) pa_nil)))) pa_nil)))) pss_nil)
  (pss_one (ps_ret (pv 0)))), ?_⟩
  rcases h with ⟨d, hd, hdep, hsl, q⟩ | ⟨hn, a, dx, fs, rfl, ha, q⟩ | ⟨hn, l, as, rfl, hq, hle, has, q⟩
  · cases d with
    | none =>
      refine ⟨_, rfl, _, rfl, .inl ⟨_, dp_ty hd, fun H1 k1 => ⟨_, rfl, iteF ?_⟩⟩⟩
      have := q v H1 (by rw [norm]; exact k1.dp FreeS.nil hd) k1
      exact ⟨_, rfl, this⟩
    | bool b =>
      refine ⟨_, rfl, _, rfl, .inl ⟨_, dp_ty hd, fun H1 k1 => ⟨_, rfl, iteF ?_⟩⟩⟩
      have := q v H1 (by rw [norm]; exact k1.dp FreeS.nil hd) k1
      exact ⟨_, rfl, this⟩
    | int i =>
      refine ⟨_, rfl, _, rfl, .inl ⟨_, dp_ty hd, fun H1 k1 => ⟨_, rfl, iteF ?_⟩⟩⟩
      have := q v H1 (by rw [norm]; exact k1.dp FreeS.nil hd) k1
      exact ⟨_, rfl, this⟩
    | str x =>
      refine ⟨_, rfl, _, rfl, .inl ⟨_, dp_ty hd, fun H1 k1 => ⟨_, rfl, iteF ?_⟩⟩⟩
      have := q v H1 (by rw [norm]; exact k1.dp FreeS.nil hd) k1
      exact ⟨_, rfl, this⟩
    | list ds =>
      rw [norm, slim, Bool.and_eq_true, decide_eq_true_eq, normA_map, List.length_map, ← normA_map] at hsl
      obtain ⟨lA, sA⟩ := hsl
      rw [PyData.depth] at hdep
      obtain ⟨a, xs, rfl, hq, hA⟩ := dp_lst hd
      have xl := dpA_len hA
      refine ⟨_, rfl, _, rfl, .inl ⟨_, dp_ty hd, fun H1 k1 => ⟨_, rfl, iteT ?_⟩⟩⟩
      refine ⟨_, rfl, a, rfl, .inl ⟨⟨xs, k1.sqL FreeS.nil hq⟩, fun D hD => ?_⟩⟩
      refine lc_it (walk_list (xs := xs)) (fun i H' => Kp [] H H' ∧ ∃ ys, H' D = some (.lst ys) ∧ DpAll K H' ys ((ds.take i).map norm)) ⟨k1.trans (Kp.new hD), [], upd_same, .nil⟩ (fun i H' _ ⟨kk, _⟩ => kk.sqL FreeS.nil hq) ?_ ?_
      · rintro i x H2 H3 hi ⟨k2, ys, hD2, hE⟩ ⟨rfl, hx⟩
        obtain ⟨di, hdi, hdx⟩ := dpA_at' (k2.dpA FreeS.nil hA) hx
        have dmem := List.mem_of_getElem? hdi
        have ddi := depthA_mem di dmem
        have dsl : slim (norm di) = true := slimA_mem sA _ (by rw [normA_map]; exact List.mem_map_of_mem dmem)
        refine ⟨rfl, ?_⟩
        refine ⟨_, rfl, x, rfl, .inl ⟨di, hdx, by omega, dsl, fun y H4 hy k4 => ?_⟩⟩
        have D4 := k4.at hD2 (by simp)
        have ylen := dpA_len hE
        rw [List.length_map, List.length_take] at ylen
        refine ⟨ys, D4, sm' (by omega), fun g o hg1 hg2 => ?_, ys ++ [y], upd_same, ?_⟩
        · rw [upd_ne (ne_of_none hg2 (k1.free hD))]
          exact (k2.trans k4) _ _ hg1 hg2
        · have kD : Kp [D] H4 (upd H4 D (.lst (ys ++ [y]))) := Kp.put (by simp)
          have fD : FreeT [D] H4 := fun b hb => by rw [List.mem_singleton] at hb; rw [hb, D4]; rfl
          have e1 : (ds.take (i + 1)).map norm = (ds.take i).map norm ++ [norm di] := by rw [List.take_add_one, hdi, List.map_append]; rfl
          rw [e1]
          refine kD.dpTA fD (tuA_all fun z hz => ?_) (dpA_app (k4.dpA FreeS.nil hE) (.cons hy .nil))
          rcases List.mem_append.mp hz with hz | hz
          · obtain ⟨z0, hz0, rfl⟩ := List.mem_map.mp hz
            exact tuA_mem (norm_tuA ds _ hA) _ (by rw [normA_map]; exact List.mem_map_of_mem (List.mem_of_mem_take hz0))
          · rw [List.mem_singleton] at hz
            rw [hz]
            exact norm_tu di x hdx
      · rintro H2 ⟨k2, ys, hD2, hE⟩
        rw [List.take_of_length_le (by omega)] at hE
        refine ⟨D, ys, rfl, .inl ⟨SqL.of hD2, fun t ht => ?_⟩⟩
        refine q _ _ ?_ (k2.trans (Kp.new ht))
        rw [norm, normA_map]
        exact dp_new upd_same ((Kp.new (M := []) ht).dpA FreeS.nil hE)
    | tuple ds =>
      rw [norm, slim, Bool.and_eq_true, decide_eq_true_eq, normA_map, List.length_map, ← normA_map] at hsl
      obtain ⟨lA, sA⟩ := hsl
      rw [PyData.depth] at hdep
      obtain ⟨a, xs, rfl, hq, hA⟩ := dp_tup hd
      have xl := dpA_len hA
      refine ⟨_, rfl, _, rfl, .inl ⟨_, dp_ty hd, fun H1 k1 => ⟨_, rfl, iteT ?_⟩⟩⟩
      refine ⟨_, rfl, a, rfl, .inr ⟨⟨xs, k1.sqT FreeS.nil.t hq⟩, fun D hD => ?_⟩⟩
      refine lc_it (walk_tup (xs := xs)) (fun i H' => Kp [] H H' ∧ ∃ ys, H' D = some (.lst ys) ∧ DpAll K H' ys ((ds.take i).map norm)) ⟨k1.trans (Kp.new hD), [], upd_same, .nil⟩ (fun i H' _ ⟨kk, _⟩ => kk.sqT FreeS.nil.t hq) ?_ ?_
      · rintro i x H2 H3 hi ⟨k2, ys, hD2, hE⟩ ⟨rfl, hx⟩
        obtain ⟨di, hdi, hdx⟩ := dpA_at' (k2.dpA FreeS.nil hA) hx
        have dmem := List.mem_of_getElem? hdi
        have ddi := depthA_mem di dmem
        have dsl : slim (norm di) = true := slimA_mem sA _ (by rw [normA_map]; exact List.mem_map_of_mem dmem)
        refine ⟨rfl, ?_⟩
        refine ⟨_, rfl, x, rfl, .inl ⟨di, hdx, by omega, dsl, fun y H4 hy k4 => ?_⟩⟩
        have D4 := k4.at hD2 (by simp)
        have ylen := dpA_len hE
        rw [List.length_map, List.length_take] at ylen
        refine ⟨ys, D4, sm' (by omega), fun g o hg1 hg2 => ?_, ys ++ [y], upd_same, ?_⟩
        · rw [upd_ne (ne_of_none hg2 (k1.free hD))]
          exact (k2.trans k4) _ _ hg1 hg2
        · have kD : Kp [D] H4 (upd H4 D (.lst (ys ++ [y]))) := Kp.put (by simp)
          have fD : FreeT [D] H4 := fun b hb => by rw [List.mem_singleton] at hb; rw [hb, D4]; rfl
          have e1 : (ds.take (i + 1)).map norm = (ds.take i).map norm ++ [norm di] := by rw [List.take_add_one, hdi, List.map_append]; rfl
          rw [e1]
          refine kD.dpTA fD (tuA_all fun z hz => ?_) (dpA_app (k4.dpA FreeS.nil hE) (.cons hy .nil))
          rcases List.mem_append.mp hz with hz | hz
          · obtain ⟨z0, hz0, rfl⟩ := List.mem_map.mp hz
            exact tuA_mem (norm_tuA ds _ hA) _ (by rw [normA_map]; exact List.mem_map_of_mem (List.mem_of_mem_take hz0))
          · rw [List.mem_singleton] at hz
            rw [hz]
            exact norm_tu di x hdx
      · rintro H2 ⟨k2, ys, hD2, hE⟩
        rw [List.take_of_length_le (by omega)] at hE
        refine ⟨D, ys, rfl, .inl ⟨SqL.of hD2, fun t ht => ?_⟩⟩
        refine q _ _ ?_ (k2.trans (Kp.new ht))
        rw [norm, normA_map]
        exact dp_new upd_same ((Kp.new (M := []) ht).dpA FreeS.nil hE)
    | dict kv => cases hd

  · refine ⟨_, rfl, _, rfl, .inr ⟨a, dx, fs, rfl, ha, fun H1 k1 => ⟨_, rfl, iteF ⟨_, rfl, q H1 k1⟩⟩⟩⟩
  · refine ⟨_, rfl, _, rfl, .inl ⟨_, ⟨tyx_lst hq, by simp [basics]⟩, fun H1 k1 => ⟨_, rfl, iteT ?_⟩⟩⟩
    refine ⟨_, rfl, l, rfl, .inl ⟨⟨_, k1.sqL FreeS.nil hq⟩, fun D hD => ?_⟩⟩
    refine lc_it (walk_list (xs := as.map V.ref)) (fun i H' => Kp [] H H' ∧ H' D = some (.lst ((as.take i).map V.ref))) ⟨k1.trans (Kp.new hD), upd_same⟩ (fun i H' _ ⟨kk, _⟩ => kk.sqL FreeS.nil hq) ?_ ?_
    · rintro i x H2 H3 hi ⟨k2, hD2⟩ ⟨rfl, hx⟩
      rw [List.getElem?_map] at hx
      obtain ⟨a, hae, rfl⟩ := Option.map_eq_some_iff.mp hx
      obtain ⟨dx, fs, ha⟩ := has a (List.mem_of_getElem? hae)
      refine ⟨rfl, ?_⟩
      refine ⟨_, rfl, .ref a, rfl, .inr (.inl ⟨by omega, a, dx, fs, rfl, k2.at ha (by simp), fun H4 k4 => ?_⟩)⟩
      have D4 := k4.at hD2 (by simp)
      refine ⟨_, D4, sm' (by rw [List.length_map, List.length_take]; omega), fun g o hg1 hg2 => ?_, ?_⟩
      · rw [upd_ne (ne_of_none hg2 (k1.free hD))]
        exact (k2.trans k4) _ _ hg1 hg2
      · rw [upd_same, List.take_add_one, hae, List.map_append]
        rfl
    · rintro H2 ⟨k2, hD2⟩
      rw [List.take_of_length_le (by rw [List.length_map]; exact Nat.le_refl _)] at hD2
      refine ⟨D, _, rfl, .inl ⟨SqL.of hD2, fun t ht => ?_⟩⟩
      exact q t _ (k2.free ht) upd_same (k2.trans (Kp.new ht))
theorem ast_ok (T : Txt K mg) (Te : Txe K mg T) : ∀ n, C8.Cal P w K mg base (2 + n) "as_tuples" (spAsT K T.C_Edge n) []
  | 0 => calVac T.d_as_tuples fun vs H Q E h => by
    obtain ⟨v, _, h⟩ := h
    rcases h with ⟨d, _, hd, _⟩ | ⟨hd, _⟩ | ⟨hd, _⟩
    · exact absurd hd (Nat.not_lt_zero _)
    · omega
    · omega
  | n + 1 => ast_step T Te n (ast_ok T Te n)
end
end Sv
end
section
set_option Elab.async false
set_option linter.all false
set_option autoImplicit false
set_option maxRecDepth 100000
/-! W18: edges made; the builder. -/
namespace Sv
open PySem PySem.Spec PyProof.Rows L2
open C8 (pe_c pe_mt pe_mt0 pe_mk pe_gc)
section
variable {X : Cx} {k j : Nat} {C : Addr} {x : Str} {sp : Sp} {dvs : List V} {p pos : Pos}
theorem pe_mk0 (c : C8.Mak X.prog X.w X.K X.mg X.base k x C sp dvs) (hr : Room j X.A) (hk : k + 1 ≤ j) (hg : Gl X x) (hdb : (x == ("__debug__" : Str)) = false := by decide) :
    PE X (.Call (.Name x p) [] [] pos) (tMake C sp dvs C8.E0 tNil) := by
  obtain ⟨f, fd, ps, ds, M, F, hm, b, d⟩ := c.ex
  exact pe_make0 M F (hr.mono hk) hg hm b d C8.pass0 hdb
end
mutual
theorem norm_id : ∀ d : PyData, tu d = true → norm d = d
  | .none, _ => by rw [norm]
  | .bool _, _ => by rw [norm]
  | .int _, _ => by rw [norm]
  | .str _, _ => by rw [norm]
  | .list _, h => by simp [tu] at h
  | .tuple ds, h => by rw [norm, norm_idA ds (by simpa [tu] using h)]
  | .dict _, _ => by rw [norm]
theorem norm_idA : ∀ ds : List PyData, tuA ds = true → normA ds = ds
  | [], _ => by rw [normA]
  | d :: ds, h => by
    rw [tuA, Bool.and_eq_true] at h
    rw [normA, norm_id d h.1, norm_idA ds h.2]
end
theorem slim_t {ds : List PyData} (h : ds.length ≤ 1000) (h2 : slimA ds = true) : slim (.tuple ds) = true := by rw [slim, h2, decide_eq_true h]; rfl
theorem slim_c {d : PyData} {ds : List PyData} (h : slim d = true) (h2 : slimA ds = true) : slimA (d :: ds) = true := by rw [slimA, h, h2]; rfl
theorem slim_n : slimA [] = true := rfl
theorem Opd.slim : ∀ a : Opd, Sv.slim a.enc = true
  | .nm _ => rfl
  | .num _ => rfl
theorem Val.slim : ∀ a : Val, Sv.slim a.enc = true
  | .as a => slim_t (by show 2 ≤ 1000; decide) (slim_c rfl (slim_c a.slim slim_n))
  | .bin o a b => slim_t (by show 3 ≤ 1000; decide) (slim_c rfl (slim_c a.slim (slim_c b.slim slim_n)))
theorem Pair.slim (p : Pair) : Sv.slim p.enc = true := slim_t (by show 3 ≤ 1000; decide) (slim_c rfl (slim_c p.a.slim (slim_c p.b.slim slim_n)))
theorem Deed.slim : ∀ d : Deed, Sv.slim d.enc = true
  | .test p t => slim_t (by show 3 ≤ 1000; decide) (slim_c rfl (slim_c p.slim (slim_c rfl slim_n)))
  | .skip => slim_t (by show 1 ≤ 1000; decide) (slim_c rfl slim_n)
  | .set x v => slim_t (by show 3 ≤ 1000; decide) (slim_c rfl (slim_c rfl (slim_c v.slim slim_n)))
  | .give a => slim_t (by show 2 ≤ 1000; decide) (slim_c rfl (slim_c a.slim slim_n))
theorem Deed.dep : ∀ d : Deed, d.enc.depth ≤ 2
  | .test p t => by rw [Deed.enc, dep_t, dep_c, dep_c, dep_c, dep_n, dep_s, p.dep, dep_b]; decide
  | .skip => by rw [Deed.enc, dep_t, dep_c, dep_n, dep_s]; decide
  | .set x v => by rw [Deed.enc, dep_t, dep_c, dep_c, dep_c, dep_n, dep_s, dep_s, v.dep]; decide
  | .give a => by rw [Deed.enc, dep_t, dep_c, dep_c, dep_n, dep_s, a.dep]; decide
/-- an Edge object -/
def edF (s : Nat) (v : V) (t : Nat) : List (Str × V) := [("start", .int (s : Nat)), ("deed", v), ("end", .int (t : Nat))]
def EdgeAt (K : PySem.W.Frag) (H : Hp) (C : Addr) (a : Addr) (e : Edge) : Prop := ∃ dx v, H a = some (.ins C dx (edF e.start v e.stop)) ∧ Dp K H v e.deed.enc
structure Bu where
  a : Addr
  l : Addr
abbrev Bu.M (b : Bu) : List Addr := [b.a, b.l]
def buF (M : Nat) (l : Addr) : List (Str × V) := [("many", .int (M : Nat)), ("made", .ref l)]
structure BuS (K : PySem.W.Frag) (T : Addr × Addr) (H : Hp) (b : Bu) (M : Nat) (es : List Edge) (dx : Addr) (as : List Addr) : Prop where
  ha : H b.a = some (.ins T.1 dx (buF M b.l))
  hl : H b.l = some (.lst (as.map V.ref))
  he : Paired (EdgeAt K H T.2) as es
structure BuAt (K : PySem.W.Frag) (T : Addr × Addr) (H : Hp) (b : Bu) (M : Nat) (es : List Edge) : Prop where
  ex : ∃ dx as, BuS K T H b M es dx as
section
variable {K : PySem.W.Frag} {T : Addr × Addr} {H H' : Hp} {b : Bu} {M M' : Nat} {es : List Edge} {dx : Addr} {as : List Addr}
theorem BuS.freet (h : BuS K T H b M es dx as) : FreeT b.M H := fun c hc => by
  simp only [List.mem_cons, List.not_mem_nil, or_false] at hc
  rcases hc with rfl | rfl
  · rw [h.ha]; rfl
  · rw [h.hl]; rfl
theorem BuAt.freet (h : BuAt K T H b M es) : FreeT b.M H := by
  obtain ⟨dx, as, h⟩ := h.ex
  exact h.freet
theorem ed_ne_bu {s t M : Nat} {v : V} {l : Addr} : edF s v t ≠ buF M l := by
  intro z
  have z2 : (edF s v t).length = (buF M l).length := by rw [z]
  exact absurd z2 (by show ¬ 3 = 2; decide)
theorem EdgeAt.kp {N : List Addr} {a : Addr} {e : Edge} (h : EdgeAt K H T.2 a e) (k : Kp N H H') (f : FreeT N H) (hn : ∀ dx v, H a = some (.ins T.2 dx (edF e.start v e.stop)) → a ∉ N) : EdgeAt K H' T.2 a e := by
  obtain ⟨dx, v, h1, h2⟩ := h
  exact ⟨dx, v, k _ _ (hn dx v h1) h1, k.dpT f e.deed.tu h2⟩
theorem BuS.edges (h : BuS K T H b M es dx as) (k : Kp b.M H H') : Paired (EdgeAt K H' T.2) as es := by
  have key : ∀ {as : List Addr} {es : List Edge}, Paired (EdgeAt K H T.2) as es → Paired (EdgeAt K H' T.2) as es := fun q => paired_mono (fun a e q => q.kp k h.freet fun dx v e1 hm => by
    simp only [List.mem_cons, List.not_mem_nil, or_false] at hm
    rcases hm with rfl | rfl
    · rw [h.ha] at e1
      injection e1 with e1
      injection e1 with _ _ e3
      exact ed_ne_bu e3.symm
    · rw [h.hl] at e1
      cases e1) q
  exact key h.he
theorem BuS.kp0 (h : BuS K T H b M es dx as) (k : Kp [] H H') : BuS K T H' b M es dx as := ⟨k.at h.ha (by simp), k.at h.hl (by simp), h.edges k.all⟩
theorem BuAt.kp0 (h : BuAt K T H b M es) (k : Kp [] H H') : BuAt K T H' b M es := by
  obtain ⟨dx, as, h⟩ := h.ex
  exact ⟨dx, as, h.kp0 k⟩
theorem BuAt.new {q : Addr} {o : HO} (h : BuAt K T H b M es) (hq : H q = none) : BuAt K T (upd H q o) b M es := h.kp0 (Kp.new hq)
theorem BuS.len (h : BuS K T H b M es dx as) : as.length = es.length := Paired.length h.he
end
def spEdgeI (K : PySem.W.Frag) (C : Addr) : Sp := fun vs H Q _ => ∃ (x dx : Addr) (s t : Nat) (v : V) (d : Deed), vs = [.ref x, .int (s : Nat), v, .int (t : Nat)] ∧ H x = some (.ins C dx []) ∧ Dp K H v d.enc ∧ ∀ H', Kp [x] H H' → EdgeAt K H' C x ⟨s, d, t⟩ → Q .non H'
def spTie (K : PySem.W.Frag) (C : Addr × Addr) : Sp := fun vs H Q _ => ∃ (b : Bu) (s t M : Nat) (v : V) (d : Deed) (es : List Edge), vs = [.ref b.a, .int (s : Nat), v, .int (t : Nat)] ∧ BuAt K C H b M es ∧ Dp K H v d.enc ∧ es.length + 1 ≤ 10000 ∧ ∀ H', Kp b.M H H' → BuAt K C H' b M (es ++ [⟨s, d, t⟩]) → Q .non H'
def spBFresh (K : PySem.W.Frag) (C : Addr × Addr) : Sp := fun vs H Q _ => ∃ (b : Bu) (M : Nat) (es : List Edge), vs = [.ref b.a] ∧ BuAt K C H b M es ∧ ∀ H', Kp b.M H H' → BuAt K C H' b (M + 1) es → Q (.int (M : Nat)) H'
theorem sc_edgei : FnScope ["self", "start", "deed", "end"] ["self", "start", "deed", "end"] (C8.fnScope (clsS 24 0)) := C8.fnScope_by (by decide +kernel)
theorem sc_tie : FnScope ["self", "start", "deed", "end"] ["self", "start", "deed", "end"] (C8.fnScope (clsS 26 2)) := C8.fnScope_by (by decide +kernel)
theorem sc_bfresh : FnScope ["self"] ["self"] (C8.fnScope (clsS 26 1)) := C8.fnScope_by (by decide +kernel)
section
variable {P : Program} {w : World} {K : PySem.W.Frag} {mg : Str → Option Value} {base : Heap}
set_option maxHeartbeats 1000000
theorem edgei_ok (T : Txt K mg) (Te : Txe K mg T) : C8.Mak P w K mg base 6 "Edge" T.C_Edge (spEdgeI K T.C_Edge) [] := by
  have nd := sc_edgei.nd
  have c_as_tuples := ast_ok (P := P) (w := w) (base := base) T Te 3
  refine makD T.m_Edge sc_edgei (fun vs H Q E h => ?_) (fun f cdv A outer s0 H vs Q E hr h => ?_)
  · obtain ⟨x, dx, s, t, v, d, rfl, _⟩ := h
    rfl
  obtain ⟨x, dx, s, t, v, d, rfl, hx, hv, q⟩ := h
  have hu := hu_of hr
  refine ⟨_, (pss_cons (ps_fld (pv 0) (pe_c c_as_tuples hr (by omega) rfl (pa_cons (pv 1) pa_nil)) rfl)
  (pss_cons (ps_fld (pv 0) (pe_c c_as_tuples hr (by omega) rfl (pa_cons (pv 2) pa_nil)) rfl)
  (pss_one (ps_fld (pv 0) (pe_c c_as_tuples hr (by omega) rfl (pa_cons (pv 3) pa_nil)) rfl)))), ?_⟩
  refine ⟨_, rfl, _, rfl, .inl ⟨_, .int _, by rw [PyData.depth]; omega, by rw [norm]; rfl, fun v1 H1 h1 k1 => ?_⟩⟩
  rw [norm] at h1
  cases dp_int h1
  refine ⟨_, rfl, x, T.C_Edge, dx, _, rfl, k1.at hx (by simp), T.cl_Edge, T.n_Edge_start, by decide, ?_⟩
  have k2 : Kp [x] H (upd H1 x (.ins T.C_Edge dx [("start", .int (s : Nat))])) := k1.all.trans (Kp.put (by simp))
  have fx : FreeT [x] H := fun b hb => by rw [List.mem_singleton] at hb; rw [hb, hx]; rfl
  have x2 : (upd H1 x (.ins T.C_Edge dx [("start", .int (s : Nat))])) x = some (.ins T.C_Edge dx [("start", .int (s : Nat))]) := upd_same
  have hv2 := k2.dpT fx d.tu hv
  change (fun H2 : Hp => _) (upd H1 x (.ins T.C_Edge dx [("start", .int (s : Nat))]))
  generalize upd H1 x (.ins T.C_Edge dx [("start", .int (s : Nat))]) = H2 at *
  have ddep := d.dep
  refine ⟨_, rfl, v, rfl, .inl ⟨_, hv2, by omega, by rw [norm_id _ d.tu]; exact d.slim, fun v3 H3 h3 k3 => ?_⟩⟩
  rw [norm_id _ d.tu] at h3
  refine ⟨_, rfl, x, T.C_Edge, dx, _, rfl, k3.at x2 (by simp), T.cl_Edge, T.n_Edge_deed, by show 1 < 1000; decide, ?_⟩
  have x3 := k3.at x2 (by simp)
  have k4 : Kp [x] H3 (upd H3 x (.ins T.C_Edge dx [("start", .int (s : Nat)), ("deed", v3)])) := Kp.put (by simp)
  have fx3 : FreeT [x] H3 := fun b hb => by rw [List.mem_singleton] at hb; rw [hb, x3]; rfl
  have h4 := k4.dpT fx3 d.tu h3
  have x4 : (upd H3 x (.ins T.C_Edge dx [("start", .int (s : Nat)), ("deed", v3)])) x = some (.ins T.C_Edge dx [("start", .int (s : Nat)), ("deed", v3)]) := upd_same
  change (fun H2 : Hp => _) (upd H3 x (.ins T.C_Edge dx [("start", .int (s : Nat)), ("deed", v3)]))
  generalize upd H3 x (.ins T.C_Edge dx [("start", .int (s : Nat)), ("deed", v3)]) = H4 at *
  refine ⟨_, rfl, _, rfl, .inl ⟨_, .int _, by rw [PyData.depth]; omega, by rw [norm]; rfl, fun v5 H5 h5 k5 => ?_⟩⟩
  rw [norm] at h5
  cases dp_int h5
  have x5 := k5.at x4 (by simp)
  refine ⟨_, rfl, x, T.C_Edge, dx, _, rfl, x5, T.cl_Edge, T.n_Edge_end, by show 2 < 1000; decide, ?_⟩
  have k6 : Kp [x] H5 (upd H5 x (.ins T.C_Edge dx (edF s v3 t))) := Kp.put (by simp)
  have fx5 : FreeT [x] H5 := fun b hb => by rw [List.mem_singleton] at hb; rw [hb, x5]; rfl
  exact q _ (k2.trans (k3.all.trans (k4.trans (k5.all.trans k6)))) ⟨dx, v3, upd_same, k6.dpT fx5 d.tu (k5.dp FreeS.nil h4)⟩
theorem tie_ok (T : Txt K mg) (Te : Txe K mg T) : C8.Met P w K mg base 8 T.C_Builder "tie" (spTie K (T.C_Builder, T.C_Edge)) [] := by
  have nd := sc_tie.nd
  have m_Edge := edgei_ok (P := P) (w := w) (base := base) T Te
  refine metD T.cl_Builder T.e_Builder_tie sc_tie (fun vs H Q E h => ?_) (fun f cdv A outer s0 H vs Q E hr h => ?_)
  · obtain ⟨b, s, t, M, v, d, es, rfl, _⟩ := h
    rfl
  obtain ⟨b, s, t, M, v, d, es, rfl, hB, hv, hle, q⟩ := h
  have hu := hu_of hr
  obtain ⟨dx, as, h⟩ := hB.ex
  refine ⟨_, (pss_one (ps_expr (pe_bm PySem.F.plainAttrs_list PySem.F.slot_list_append PySem.F.type_list_append mt_append (pe_fld (pv 0) rfl) (pa_cons (pe_mk m_Edge hr (by omega) rfl (pa_cons (pv 1) (pa_cons (pv 2) (pa_cons (pv 3) pa_nil)))) pa_nil)))), ?_⟩
  refine ⟨_, rfl, b.a, T.C_Builder, dx, _, _, rfl, h.ha, T.cl_Builder, T.n_Builder_made, rfl, .inl ⟨rfl, _, SqL.of h.hl⟩, ?_⟩
  refine ⟨_, rfl, _, rfl, _, rfl, fun x ex hx hex hne => ?_⟩
  have k1 : Kp [] H (upd (upd H ex (.own x)) x (.ins T.C_Edge ex [])) := (Kp.new hex).trans (Kp.new (by rw [upd_ne hne.symm]; exact hx))
  refine ⟨x, ex, s, t, v, d, rfl, upd_same, k1.dp FreeS.nil hv, fun H2 k2 hE => ⟨rfl, ?_⟩⟩
  have k12 : Kp [] H H2 := fun g o hg1 hg2 => k2 g o (by simpa using ne_of_none hg2 hx) (k1 g o hg1 hg2)
  have h2 := h.kp0 k12
  have hlen := h.len
  refine ⟨b.l, _, _, rfl, rfl, h2.hl, sm' (by rw [List.length_map]; omega), ?_⟩
  have k3 : Kp [b.l] H2 (upd H2 b.l (.lst (as.map V.ref ++ [.ref x]))) := Kp.put (by simp)
  have k3' : Kp b.M H2 (upd H2 b.l (.lst (as.map V.ref ++ [.ref x]))) := k3.sub fun a ha => by rw [List.mem_singleton] at ha; rw [ha]; simp
  have al : b.a ≠ b.l := ne_of h2.ha h2.hl (by intro z; cases z)
  have fl : FreeT [b.l] H2 := fun c hc => by rw [List.mem_singleton] at hc; rw [hc, h2.hl]; rfl
  refine q _ (k12.all.trans k3') ⟨dx, as ++ [x], by rw [upd_ne al]; exact h2.ha, by rw [upd_same, List.map_append]; rfl, paired_snoc ?_ (h2.edges k3')⟩
  refine EdgeAt.kp (T := (T.C_Builder, T.C_Edge)) hE k3 fl fun d2 v2 e2 hm => ?_
  rw [List.mem_singleton] at hm
  rw [hm, h2.hl] at e2
  cases e2
theorem bfresh_ok (T : Txt K mg) : C8.Met P w K mg base 1 T.C_Builder "fresh" (spBFresh K (T.C_Builder, T.C_Edge)) [] := by
  have nd := sc_bfresh.nd
  refine metD T.cl_Builder T.e_Builder_fresh sc_bfresh (fun vs H Q E h => ?_) (fun f cdv A outer s0 H vs Q E hr h => ?_)
  · obtain ⟨b, M, es, rfl, _⟩ := h
    rfl
  obtain ⟨b, M, es, rfl, hB, q⟩ := h
  have hu := hu_of hr
  obtain ⟨dx, as, h⟩ := hB.ex
  refine ⟨_, (pss_cons (ps_fldaug (pv 0) pe_int in_add)
  (pss_one (ps_ret (pe_op op_sub (pe_fld (pv 0) rfl) pe_int)))), ?_⟩
  refine ⟨_, rfl, b.a, T.C_Builder, dx, _, _, rfl, h.ha, T.cl_Builder, T.n_Builder_many, rfl, _, _, rfl, rfl, dx, _, h.ha, by show 2 < 1000; decide, ?_⟩
  have k1 : Kp b.M H (upd H b.a (.ins T.C_Builder dx (buF (M + 1) b.l))) := Kp.put (by simp)
  have al : b.a ≠ b.l := ne_of h.ha h.hl (by intro z; cases z)
  have h1 : BuS K (T.C_Builder, T.C_Edge) (upd H b.a (.ins T.C_Builder dx (buF (M + 1) b.l))) b (M + 1) es dx as := ⟨upd_same, by rw [upd_ne al.symm]; exact h.hl, h.edges k1⟩
  refine ⟨_, rfl, b.a, T.C_Builder, dx, _, _, rfl, h1.ha, T.cl_Builder, T.n_Builder_many, rfl, _, _, rfl, rfl, ?_⟩
  have e2 : ((M + 1 : Nat) : Int) - 1 = (M : Int) := by omega
  show Q (.int (((M + 1 : Nat) : Int) - 1)) _
  rw [e2]
  exact q _ k1 ⟨dx, as, h1⟩
end
end Sv
end
section
set_option Elab.async false
set_option linter.all false
set_option autoImplicit false
set_option maxRecDepth 100000
/-! W19: the builder stands conditions, blocks, statements. -/
namespace Sv
open PySem PySem.Spec PyProof.Rows L2
open C8 (pe_c pe_mt pe_mt0 pe_mk pe_gc)
def spBC (K : PySem.W.Frag) (C : Addr × Addr) (n : Nat) : Sp := fun vs H Q _ => ∃ (b : Bu) (v : V) (c : Cnd) (s y z M : Nat) (es : List Edge), vs = [.ref b.a, v, .int (s : Nat), .int (y : Nat), .int (z : Nat)] ∧ BuAt K C H b M es ∧ Dp K H v c.enc ∧ c.dp < n ∧ es.length + (standC c s y z M).2.length ≤ 10000 ∧
  ∀ H', Kp b.M H H' → BuAt K C H' b (standC c s y z M).1 (es ++ (standC c s y z M).2) → Q .non H'
def spBS (K : PySem.W.Frag) (C : Addr × Addr) (n : Nat) : Sp := fun vs H Q _ => ∃ (bu : Bu) (v : V) (sp : Addr) (st : Stm) (N : List Str) (l : Bool) (s e o g M : Nat) (es : List Edge), vs = [.ref bu.a, v, .ref sp] ∧ BuAt K C H bu M es ∧ Dp K H v st.enc ∧ SpotsAt K H l sp s e o g ∧ st.ok N l ∧ st.dp < n ∧
  es.length + (standS st s e o g M).2.length ≤ 10000 ∧ ∀ H', Kp bu.M H H' → BuAt K C H' bu (standS st s e o g M).1 (es ++ (standS st s e o g M).2) → Q .non H'
/-- a statement that holds no block -/
def Stm.flat : Stm → Prop
  | .ifs _ _ _ => False
  | .while _ _ => False
  | .loop _ => False
  | .set _ _ => True
  | .give _ => True
  | .skip => True
  | .brk => True
  | .nxt => True
def spBP (K : PySem.W.Frag) (C : Addr × Addr) : Sp := fun vs H Q _ => ∃ (bu : Bu) (v : V) (sp : Addr) (st : Stm) (N : List Str) (l : Bool) (s e o g M : Nat) (es : List Edge), vs = [.ref bu.a, v, .ref sp] ∧ st.flat ∧ BuAt K C H bu M es ∧ Dp K H v st.enc ∧ SpotsAt K H l sp s e o g ∧ st.ok N l ∧
  es.length + (standS st s e o g M).2.length ≤ 10000 ∧ ∀ H', Kp bu.M H H' → BuAt K C H' bu (standS st s e o g M).1 (es ++ (standS st s e o g M).2) → Q .non H'
def spBB (K : PySem.W.Frag) (C : Addr × Addr) (n : Nat) : Sp := fun vs H Q _ => ∃ (bu : Bu) (v : V) (sp : Addr) (b : Blk) (N : List Str) (l : Bool) (s e o g M : Nat) (es : List Edge), vs = [.ref bu.a, v, .ref sp] ∧ BuAt K C H bu M es ∧ Dp K H v b.enc ∧ SpotsAt K H l sp s e o g ∧ b.ok N l ∧ b.dp < n ∧
  es.length + (standB b s e o g M).2.length ≤ 10000 ∧ ∀ H', Kp bu.M H H' → BuAt K C H' bu (standB b s e o g M).1 (es ++ (standB b s e o g M).2) → Q .non H'
theorem SpotsAt.kpT {K : PySem.W.Frag} {M : List Addr} {H H' : Hp} {l : Bool} {a : Addr} {s e o g : Nat} (h : SpotsAt K H l a s e o g) (k : Kp M H H') (f : FreeT M H) : SpotsAt K H' l a s e o g := by
  obtain ⟨vo, vg, h1, h2, h3⟩ := h
  exact ⟨vo, vg, k.sqT f h1, h2, h3⟩
theorem sc_bc : FnScope ["self", "told", "start", "yes", "no", "word", "middle"] ["self", "told", "start", "yes", "no"] (C8.fnScope (clsS 26 6)) := C8.fnScope_by (by decide +kernel)
theorem sc_bs : FnScope ["self", "statement", "spots", "start", "end", "out", "again", "word", "yes", "no"] ["self", "statement", "spots"] (C8.fnScope (clsS 26 4)) := C8.fnScope_by (by decide +kernel)
theorem sc_bp : FnScope ["self", "statement", "spots", "start", "end", "out", "again", "word"] ["self", "statement", "spots"] (C8.fnScope (clsS 26 5)) := C8.fnScope_by (by decide +kernel)
theorem sc_bb : FnScope ["self", "block", "spots", "start", "end", "out", "again", "middle"] ["self", "block", "spots"] (C8.fnScope (clsS 26 3)) := C8.fnScope_by (by decide +kernel)
section
variable {P : Program} {w : World} {K : PySem.W.Frag} {mg : Str → Option Value} {base : Heap}
set_option maxHeartbeats 1000000
theorem bc_step (T : Txt K mg) (Te : Txe K mg T) (n : Nat) (d_stand_condition : C8.Met P w K mg base (9 + n) T.C_Builder "stand_condition" (spBC K (T.C_Builder, T.C_Edge) n) []) : C8.Met P w K mg base (9 + n + 1) T.C_Builder "stand_condition" (spBC K (T.C_Builder, T.C_Edge) (n + 1)) [] := by
  have nd := sc_bc.nd
  have d_tie := tie_ok (P := P) (w := w) (base := base) T Te
  have d_fresh := bfresh_ok (P := P) (w := w) (base := base) T
  refine metD T.cl_Builder T.e_Builder_stand_condition sc_bc (fun vs H Q E h => ?_) (fun f cdv A outer s0 H vs Q E hr h => ?_)
  · obtain ⟨b, v, c, s, y, z, M, es, rfl, _⟩ := h
    rfl
  obtain ⟨b, v, c, s, y, z, M, es, rfl, hB, hc, hn, hle, q⟩ := h
  have hu := hu_of hr
  have ctu := c.tu
  refine ⟨_, (pss_cons (ps_asg (pe_ixc ix_tup (pv 1)) (pg_name (i := 5) nd rfl (Or.inl rfl)))
  (pss_one (ps_if (pt_cmpR op_in_seq (pv 5) (pe_gc rfl T.g_PAIRS_graphs) (by rfl)) (pss_cons (ps_expr (pe_mt d_tie hr (by omega) (pv 0) (pa_cons (pv 2) (pa_cons (pe_tup (pa_cons pe_str (pa_cons (pv 1) (pa_cons pe_bl pa_nil)))) (pa_cons (pv 3) pa_nil)))))
  (pss_one (ps_expr (pe_mt d_tie hr (by omega) (pv 0) (pa_cons (pv 2) (pa_cons (pe_tup (pa_cons pe_str (pa_cons (pv 1) (pa_cons pe_bl pa_nil)))) (pa_cons (pv 4) pa_nil))))))) (pss_one (ps_if (pt_cmpR op_eq (pv 5) pe_str (nomark _)) (pss_one (ps_expr (pe_mt d_stand_condition hr (by omega) (pv 0) (pa_cons (pe_ixc ix_tup (pv 1)) (pa_cons (pv 2) (pa_cons (pv 4) (pa_cons (pv 3) pa_nil))))))) (pss_cons (ps_asg (pe_mt0 d_fresh hr (by omega) (pv 0)) (pg_name (i := 6) nd rfl (Or.inl rfl)))
  (pss_cons (ps_if (pt_cmpR op_eq (pv 5) pe_str (nomark _)) (pss_one (ps_expr (pe_mt d_stand_condition hr (by omega) (pv 0) (pa_cons (pe_ixc ix_tup (pv 1)) (pa_cons (pv 2) (pa_cons (pv 6) (pa_cons (pv 4) pa_nil))))))) (pss_one (ps_expr (pe_mt d_stand_condition hr (by omega) (pv 0) (pa_cons (pe_ixc ix_tup (pv 1)) (pa_cons (pv 2) (pa_cons (pv 3) (pa_cons (pv 6) pa_nil))))))))
  (pss_one (ps_expr (pe_mt d_stand_condition hr (by omega) (pv 0) (pa_cons (pe_ixc ix_tup (pv 1)) (pa_cons (pv 6) (pa_cons (pv 3) (pa_cons (pv 4) pa_nil)))))))))))))), ?_⟩
  refine ⟨_, rfl, ?_⟩
  cases c with
  | pair p =>
    have hle2 : es.length + 2 ≤ 10000 := hle
    have hp : Dp K H v (.tuple [.str p.k.word, p.a.enc, p.b.enc]) := hc
    refine ixd (i := 0) hp rfl fun w hw => ?_
    cases dp_str hw
    have yes : inV (.str p.k.word) ((["below", "most", "is"] : List Str).map V.str) = true := by
      obtain ⟨k, a, b⟩ := p
      cases k <;> rfl
    have flt : (((["below", "most", "is"] : List Str).map V.str).all flatV) = true := rfl
    refine ⟨_, rfl, T.a_PAIRS_graphs, _, rfl, .inr (T.t_PAIRS_graphs _), rfl, flt, _, rfl, ?_⟩
    refine ite2 (fun _ => ?_) (fun z => absurd yes z)
    obtain ⟨dx, as, h⟩ := hB.ex
    refine ⟨_, rfl, b.a, dx, _, rfl, h.ha, rfl, _, rfl, _, rfl, (by show 3 ≤ sizeLine; decide), fun a ha => ⟨_, rfl, ?_⟩⟩
    have d1 : Dp K (upd H a (.tup [.str "test", v, .bl true])) (.ref a) (Deed.test p true).enc := dp_new upd_same (.cons (.str _) (.cons ((Kp.new (M := []) ha).dp FreeS.nil hc) (.cons (.bl _) .nil)))
    refine ⟨b, s, y, M, .ref a, .test p true, es, rfl, hB.new ha, d1, by omega, fun H1 k1 hB1 => ?_⟩
    have k01 : Kp b.M H H1 := (Kp.new ha).trans k1
    have hc1 := k01.dpT hB.freet ctu hc
    obtain ⟨dx1, as1, h1⟩ := hB1.ex
    refine ⟨_, rfl, b.a, dx1, _, rfl, h1.ha, rfl, _, rfl, _, rfl, (by show 3 ≤ sizeLine; decide), fun a2 ha2 => ⟨_, rfl, ?_⟩⟩
    have d2 : Dp K (upd H1 a2 (.tup [.str "test", v, .bl false])) (.ref a2) (Deed.test p false).enc := dp_new upd_same (.cons (.str _) (.cons ((Kp.new (M := []) ha2).dp FreeS.nil hc1) (.cons (.bl _) .nil)))
    refine ⟨b, s, z, M, .ref a2, .test p false, _, rfl, hB1.new ha2, d2, by rw [List.length_append, List.length_singleton]; omega, fun H2 k2 hB2 => ?_⟩
    refine q H2 (k01.trans ((Kp.new ha2).trans k2)) ?_
    rw [List.append_assoc] at hB2
    exact hB2
  | not c =>
    have hp : Dp K H v (.tuple [.str "not", c.enc]) := hc
    refine ixd (i := 0) hp rfl fun w hw => ?_
    cases dp_str hw
    have flt : (((["below", "most", "is"] : List Str).map V.str).all flatV) = true := rfl
    refine ⟨_, rfl, T.a_PAIRS_graphs, _, rfl, .inr (T.t_PAIRS_graphs _), rfl, flt, _, rfl, iteF ?_⟩
    refine ⟨_, rfl, rfl, _, rfl, iteT ?_⟩
    obtain ⟨dx, as, h⟩ := hB.ex
    refine ⟨_, rfl, b.a, dx, _, rfl, h.ha, rfl, _, rfl, ?_⟩
    refine ixd (i := 1) hp rfl fun w hw => ?_
    refine ⟨_, rfl, _, rfl, _, rfl, ?_⟩
    exact ⟨b, w, c, s, z, y, M, es, rfl, hB, hw, by rw [Cnd.dp] at hn; omega, hle, q⟩
  | bin k c d =>
    have hp : Dp K H v (.tuple [.str (bw k), c.enc, d.enc]) := hc
    refine ixd (i := 0) hp rfl fun w hw => ?_
    cases dp_str hw
    have no : inV (.str (bw k)) ((["below", "most", "is"] : List Str).map V.str) = false := by cases k <;> rfl
    have flt : (((["below", "most", "is"] : List Str).map V.str).all flatV) = true := rfl
    refine ⟨_, rfl, T.a_PAIRS_graphs, _, rfl, .inr (T.t_PAIRS_graphs _), rfl, flt, _, rfl, ?_⟩
    refine ite2 (fun z => absurd (no.symm.trans z) (by decide)) (fun _ => ?_)
    have no2 : ¬ V.str (bw k) = V.str "not" := by cases k <;> decide
    refine ⟨_, rfl, rfl, _, rfl, ?_⟩
    refine ite2 (fun z => absurd (of_decide_eq_true z) no2) (fun _ => ?_)
    obtain ⟨dx, as, h⟩ := hB.ex
    refine ⟨_, rfl, b.a, dx, _, rfl, h.ha, rfl, b, M, es, rfl, hB, fun H2 k2 hB2 => ?_⟩
    have hp2 := k2.dpT hB.freet ctu hc
    change Dp K H2 v (.tuple [.str (bw k), c.enc, d.enc]) at hp2
    rw [Cnd.dp] at hn
    obtain ⟨dx2, as2, h2⟩ := hB2.ex
    refine ⟨_, rfl, rfl, _, rfl, ?_⟩
    cases k with
    | true =>
      refine iteT ?_
      refine ⟨_, rfl, b.a, dx2, _, rfl, h2.ha, rfl, _, rfl, ?_⟩
      refine ixd (i := 1) hp2 rfl fun w1 hw1 => ?_
      refine ⟨_, rfl, _, rfl, _, rfl, ?_⟩
      have l1 : (standC (.bin true c d) s y z M).2 = (standC c s M z (M + 1)).2 ++ (standC d M y z (standC c s M z (M + 1)).1).2 := rfl
      rw [l1, List.length_append] at hle
      refine ⟨b, w1, c, s, M, z, M + 1, es, rfl, hB2, hw1, by omega, by omega, fun H4 k4 hB4 => ?_⟩
      have hp4 := k4.dpT hB2.freet ctu hp2
      obtain ⟨dx4, as4, h4⟩ := hB4.ex
      refine ⟨_, rfl, b.a, dx4, _, rfl, h4.ha, rfl, _, rfl, ?_⟩
      refine ixd (i := 2) hp4 rfl fun w2 hw2 => ?_
      refine ⟨_, rfl, _, rfl, _, rfl, ?_⟩
      refine ⟨b, w2, d, M, y, z, _, _, rfl, hB4, hw2, by omega, by rw [List.length_append]; omega, fun H5 k5 hB5 => ?_⟩
      refine q H5 (k2.trans (k4.trans k5)) ?_
      rw [l1, ← List.append_assoc]
      exact hB5
    | false =>
      refine iteF ?_
      refine ⟨_, rfl, b.a, dx2, _, rfl, h2.ha, rfl, _, rfl, ?_⟩
      refine ixd (i := 1) hp2 rfl fun w1 hw1 => ?_
      refine ⟨_, rfl, _, rfl, _, rfl, ?_⟩
      have l1 : (standC (.bin false c d) s y z M).2 = (standC c s y M (M + 1)).2 ++ (standC d M y z (standC c s y M (M + 1)).1).2 := rfl
      rw [l1, List.length_append] at hle
      refine ⟨b, w1, c, s, y, M, M + 1, es, rfl, hB2, hw1, by omega, by omega, fun H4 k4 hB4 => ?_⟩
      have hp4 := k4.dpT hB2.freet ctu hp2
      obtain ⟨dx4, as4, h4⟩ := hB4.ex
      refine ⟨_, rfl, b.a, dx4, _, rfl, h4.ha, rfl, _, rfl, ?_⟩
      refine ixd (i := 2) hp4 rfl fun w2 hw2 => ?_
      refine ⟨_, rfl, _, rfl, _, rfl, ?_⟩
      refine ⟨b, w2, d, M, y, z, _, _, rfl, hB4, hw2, by omega, by rw [List.length_append]; omega, fun H5 k5 hB5 => ?_⟩
      refine q H5 (k2.trans (k4.trans k5)) ?_
      rw [l1, ← List.append_assoc]
      exact hB5
theorem bc_ok (T : Txt K mg) (Te : Txe K mg T) : ∀ n, C8.Met P w K mg base (9 + n) T.C_Builder "stand_condition" (spBC K (T.C_Builder, T.C_Edge) n) []
  | 0 => metVac T.cl_Builder T.e_Builder_stand_condition fun vs H Q E h => by
    obtain ⟨b, v, c, s, y, z, M, es, _, _, _, hd, _⟩ := h
    exact absurd hd (Nat.not_lt_zero _)
  | n + 1 => bc_step T Te n (bc_ok T Te n)
theorem bp_ok (T : Txt K mg) (Te : Txe K mg T) : C8.Met P w K mg base 9 T.C_Builder "plain" (spBP K (T.C_Builder, T.C_Edge)) [] := by
  have nd := sc_bp.nd
  have d_tie := tie_ok (P := P) (w := w) (base := base) T Te
  refine metD T.cl_Builder T.e_Builder_plain sc_bp (fun vs H Q E h => ?_) (fun f cdv A outer s0 H vs Q E hr h => ?_)
  · obtain ⟨m, v, sp, b, N, l, s, e, o, g, M, es, rfl, _⟩ := h
    rfl
  obtain ⟨bu, v, sp, st, N, l, s, e, o, g, M, es, rfl, hfl, hB, hb, ⟨vo, vg, hS, hvo, hvg⟩, hok, hle, q⟩ := h
  have hu := hu_of hr
  refine ⟨_, (pss_cons (ps_asg (pv 2) (pg_tup rfl (pgs_cons (pg_name (i := 3) nd rfl (Or.inl rfl)) (pgs_cons (pg_name (i := 4) nd rfl (Or.inl rfl)) (pgs_cons (pg_name (i := 5) nd rfl (Or.inl rfl)) (pgs_cons (pg_name (i := 6) nd rfl (Or.inl rfl)) pgs_nil))))))
  (pss_cons (ps_asg (pe_ixc ix_tup (pv 1)) (pg_name (i := 7) nd rfl (Or.inl rfl)))
  (pss_one (ps_if (pt_cmpR op_eq (pv 7) pe_str (nomark _)) (pss_one (ps_expr (pe_mt d_tie hr (by omega) (pv 0) (pa_cons (pv 3) (pa_cons (pe_tup (pa_cons pe_str pa_nil)) (pa_cons (pv 5) pa_nil)))))) (pss_one (ps_if (pt_cmpR op_eq (pv 7) pe_str (nomark _)) (pss_one (ps_expr (pe_mt d_tie hr (by omega) (pv 0) (pa_cons (pv 3) (pa_cons (pe_tup (pa_cons pe_str pa_nil)) (pa_cons (pv 6) pa_nil)))))) (pss_one (ps_if (pt_cmpR op_eq (pv 7) pe_str (nomark _)) (pss_one (ps_expr (pe_mt d_tie hr (by omega) (pv 0) (pa_cons (pv 3) (pa_cons (pv 1) (pa_cons (pe_gc rfl T.g_END) pa_nil)))))) (pss_one (ps_expr (pe_mt d_tie hr (by omega) (pv 0) (pa_cons (pv 3) (pa_cons (pv 1) (pa_cons (pv 4) pa_nil)))))))))))))), ?_⟩
  refine ⟨_, rfl, sp, _, rfl, hS, rfl, _, _, rfl, _, _, rfl, _, _, rfl, _, _, rfl, rfl, ?_⟩
  refine ⟨_, rfl, ?_⟩
  obtain ⟨dx, as, h⟩ := hB.ex
  cases st with
  | ifs c b1 b2 => exact hfl.elim
  | «while» c b1 => exact hfl.elim
  | loop b1 => exact hfl.elim
  | brk =>
    rw [Stm.enc] at hb
    rw [Stm.ok] at hok
    rcases hvo with rfl | ⟨z, _⟩
    case inr => rw [hok] at z; cases z
    have es2 : (standS .brk s e o g M) = (M, [⟨s, .skip, o⟩]) := by rw [standS]
    rw [es2] at hle q
    refine ixd (i := 0) hb rfl fun w hw => ?_
    cases dp_str hw
    refine ⟨_, rfl, rfl, _, rfl, iteT ?_⟩
    refine ⟨_, rfl, bu.a, dx, _, rfl, h.ha, rfl, _, rfl, (by show 1 ≤ sizeLine; decide), fun a ha => ⟨_, rfl, ?_⟩⟩
    have d1 : Dp K (upd H a (.tup [.str "skip"])) (.ref a) Deed.skip.enc := dp_new upd_same (.cons (.str _) .nil)
    exact ⟨bu, s, o, M, .ref a, .skip, es, rfl, hB.new ha, d1, hle, fun H1 k1 hB1 => q H1 ((Kp.new ha).trans k1) hB1⟩
  | nxt =>
    rw [Stm.enc] at hb
    rw [Stm.ok] at hok
    rcases hvg with rfl | ⟨z, _⟩
    case inr => rw [hok] at z; cases z
    have es2 : (standS .nxt s e o g M) = (M, [⟨s, .skip, g⟩]) := by rw [standS]
    rw [es2] at hle q
    refine ixd (i := 0) hb rfl fun w hw => ?_
    cases dp_str hw
    refine ⟨_, rfl, rfl, _, rfl, iteF ?_⟩
    refine ⟨_, rfl, rfl, _, rfl, iteT ?_⟩
    refine ⟨_, rfl, bu.a, dx, _, rfl, h.ha, rfl, _, rfl, (by show 1 ≤ sizeLine; decide), fun a ha => ⟨_, rfl, ?_⟩⟩
    have d1 : Dp K (upd H a (.tup [.str "skip"])) (.ref a) Deed.skip.enc := dp_new upd_same (.cons (.str _) .nil)
    exact ⟨bu, s, g, M, .ref a, .skip, es, rfl, hB.new ha, d1, hle, fun H1 k1 hB1 => q H1 ((Kp.new ha).trans k1) hB1⟩
  | give u =>
    have hb0 : Dp K H v (Deed.give u).enc := by rw [Stm.enc] at hb; exact hb
    rw [Stm.enc] at hb
    have es2 : (standS (.give u) s e o g M) = (M, [⟨s, .give u, 1⟩]) := by rw [standS]
    rw [es2] at hle q
    refine ixd (i := 0) hb rfl fun w hw => ?_
    cases dp_str hw
    refine ⟨_, rfl, rfl, _, rfl, iteF ?_⟩
    refine ⟨_, rfl, rfl, _, rfl, iteF ?_⟩
    refine ⟨_, rfl, rfl, _, rfl, iteT ?_⟩
    refine ⟨_, rfl, bu.a, dx, _, rfl, h.ha, rfl, _, rfl, _, rfl, ?_⟩
    exact ⟨bu, s, 1, M, v, .give u, es, rfl, hB, hb0, hle, q⟩
  | set x u =>
    have hb0 : Dp K H v (Deed.set x u).enc := by rw [Stm.enc] at hb; exact hb
    rw [Stm.enc] at hb
    have es2 : (standS (.set x u) s e o g M) = (M, [⟨s, .set x u, e⟩]) := by rw [standS]
    rw [es2] at hle q
    refine ixd (i := 0) hb rfl fun w hw => ?_
    cases dp_str hw
    refine ⟨_, rfl, rfl, _, rfl, iteF ?_⟩
    refine ⟨_, rfl, rfl, _, rfl, iteF ?_⟩
    refine ⟨_, rfl, rfl, _, rfl, iteF ?_⟩
    refine ⟨_, rfl, bu.a, dx, _, rfl, h.ha, rfl, _, rfl, _, rfl, _, rfl, ?_⟩
    exact ⟨bu, s, e, M, v, .set x u, es, rfl, hB, hb0, hle, q⟩
  | skip =>
    have hb0 : Dp K H v (Deed.skip).enc := by rw [Stm.enc] at hb; exact hb
    rw [Stm.enc] at hb
    have es2 : (standS .skip s e o g M) = (M, [⟨s, .skip, e⟩]) := by rw [standS]
    rw [es2] at hle q
    refine ixd (i := 0) hb rfl fun w hw => ?_
    cases dp_str hw
    refine ⟨_, rfl, rfl, _, rfl, iteF ?_⟩
    refine ⟨_, rfl, rfl, _, rfl, iteF ?_⟩
    refine ⟨_, rfl, rfl, _, rfl, iteF ?_⟩
    refine ⟨_, rfl, bu.a, dx, _, rfl, h.ha, rfl, _, rfl, _, rfl, _, rfl, ?_⟩
    exact ⟨bu, s, e, M, v, .skip, es, rfl, hB, hb0, hle, q⟩
theorem bb_step (T : Txt K mg) (Te : Txe K mg T) (n : Nat) (d_stand_statement : C8.Met P w K mg base (16 + n) T.C_Builder "stand_statement" (spBS K (T.C_Builder, T.C_Edge) n) []) (d_stand_block : C8.Met P w K mg base (16 + n) T.C_Builder "stand_block" (spBB K (T.C_Builder, T.C_Edge) n) []) : C8.Met P w K mg base (16 + n + 1) T.C_Builder "stand_block" (spBB K (T.C_Builder, T.C_Edge) (n + 1)) [] := by
  have nd := sc_bb.nd
  have d_tie := tie_ok (P := P) (w := w) (base := base) T Te
  have d_fresh := bfresh_ok (P := P) (w := w) (base := base) T
  refine metD T.cl_Builder T.e_Builder_stand_block sc_bb (fun vs H Q E h => ?_) (fun f cdv A outer s0 H vs Q E hr h => ?_)
  · obtain ⟨m, v, sp, b, N, l, s, e, o, g, M, es, rfl, _⟩ := h
    rfl
  obtain ⟨bu, v, sp, b, N, l, s, e, o, g, M, es, rfl, hB, hb, ⟨vo, vg, hS, hvo, hvg⟩, hok, hn, hle, q⟩ := h
  have hu := hu_of hr
  have btu := b.tu
  refine ⟨_, (pss_cons (ps_asg (pv 2) (pg_tup rfl (pgs_cons (pg_name (i := 3) nd rfl (Or.inl rfl)) (pgs_cons (pg_name (i := 4) nd rfl (Or.inl rfl)) (pgs_cons (pg_name (i := 5) nd rfl (Or.inl rfl)) (pgs_cons (pg_name (i := 6) nd rfl (Or.inl rfl)) pgs_nil))))))
  (pss_one (ps_if (pt_cmpR op_eq (pe_callB (id := "len") call_len_seq (by rfl) T.z_len PySem.boot_len (pa_cons (pv 1) pa_nil)) pe_int (nomark _)) (pss_one (ps_expr (pe_mt d_tie hr (by omega) (pv 0) (pa_cons (pv 3) (pa_cons (pe_tup (pa_cons pe_str pa_nil)) (pa_cons (pv 4) pa_nil)))))) (pss_one (ps_if (pt_cmpR op_eq (pe_callB (id := "len") call_len_seq (by rfl) T.z_len PySem.boot_len (pa_cons (pv 1) pa_nil)) pe_int (nomark _)) (pss_one (ps_expr (pe_mt d_stand_statement hr (by omega) (pv 0) (pa_cons (pe_ixc ix_tup (pv 1)) (pa_cons (pv 2) pa_nil))))) (pss_cons (ps_asg (pe_mt0 d_fresh hr (by omega) (pv 0)) (pg_name (i := 7) nd rfl (Or.inl rfl)))
  (pss_cons (ps_expr (pe_mt d_stand_statement hr (by omega) (pv 0) (pa_cons (pe_ixc ix_tup (pv 1)) (pa_cons (pe_tup (pa_cons (pv 3) (pa_cons (pv 7) (pa_cons (pv 5) (pa_cons (pv 6) pa_nil))))) pa_nil))))
  (pss_one (ps_expr (pe_mt d_stand_block hr (by omega) (pv 0) (pa_cons (pe_slF_tup (pv 1) pe_int) (pa_cons (pe_tup (pa_cons (pv 7) (pa_cons (pv 4) (pa_cons (pv 5) (pa_cons (pv 6) pa_nil))))) pa_nil)))))))))))), ?_⟩
  obtain ⟨av, xs, rfl, hSv, hA⟩ := dp_tup (ds := b.encs) hb
  have hlen := dpA_len hA
  rw [Blk.encs_len] at hlen
  refine ⟨_, rfl, sp, _, rfl, hS, rfl, _, _, rfl, _, _, rfl, _, _, rfl, _, _, rfl, rfl, ?_⟩
  obtain ⟨dx, as, h⟩ := hB.ex
  refine ⟨_, rfl, av, _, rfl, .inr hSv, rfl, _, rfl, ?_⟩
  cases b with
  | nil =>
    refine ite2 (fun _ => ?_) (fun z => absurd (decide_eq_true (congrArg V.int (by rw [hlen]; rfl))) z)
    refine ⟨_, rfl, bu.a, dx, _, rfl, h.ha, rfl, _, rfl, (by show 1 ≤ sizeLine; decide), fun a ha => ⟨_, rfl, ?_⟩⟩
    have d1 : Dp K (upd H a (.tup [.str "skip"])) (.ref a) Deed.skip.enc := dp_new upd_same (.cons (.str _) .nil)
    have es2 : (standB .nil s e o g M) = (M, [⟨s, .skip, e⟩]) := by rw [standB]
    rw [es2] at hle q
    exact ⟨bu, s, e, M, .ref a, .skip, es, rfl, hB.new ha, d1, hle, fun H1 k1 hB1 => q H1 ((Kp.new ha).trans k1) hB1⟩
  | cons st rest =>
    have hb2 : Dp K H (.ref av) (.tuple (st.enc :: rest.encs)) := by
      have := hb
      rw [Blk.enc, Blk.encs] at this
      exact this
    have btu2 : tu (.tuple (st.enc :: rest.encs)) = true := by
      have := btu
      rw [Blk.enc, Blk.encs] at this
      exact this
    rw [Blk.len] at hlen
    rw [Blk.ok] at hok
    rw [Blk.dp] at hn
    refine ite2 (fun z => absurd (V.int.inj (of_decide_eq_true z)) (by rw [hlen]; omega)) (fun _ => ?_)
    refine ⟨_, rfl, av, _, rfl, .inr hSv, rfl, _, rfl, ?_⟩
    cases rest with
    | nil =>
      refine ite2 (fun _ => ?_) (fun z => absurd (decide_eq_true (congrArg V.int (by rw [hlen]; rfl))) z)
      refine ⟨_, rfl, bu.a, dx, _, rfl, h.ha, rfl, _, rfl, ?_⟩
      refine ixd (i := 0) hb2 rfl fun w hw => ?_
      refine ⟨_, rfl, ?_⟩
      exact ⟨bu, w, sp, st, N, l, s, e, o, g, M, es, rfl, hB, hw, ⟨vo, vg, hS, hvo, hvg⟩, hok.1, by omega, by rw [standB] at hle; exact hle, fun H' k h => q H' k (by rw [standB]; exact h)⟩
    | cons st2 rest2 =>
      refine ite2 (fun z => absurd (V.int.inj (of_decide_eq_true z)) (by rw [hlen, Blk.len]; omega)) (fun _ => ?_)
      rw [standB, List.length_append] at hle
      refine ⟨_, rfl, bu.a, dx, _, rfl, h.ha, rfl, bu, M, es, rfl, hB, fun H2 k2 hB2 => ?_⟩
      have hb3 := k2.dpT hB.freet btu2 hb2
      obtain ⟨dx2, as2, h2⟩ := hB2.ex
      refine ⟨_, rfl, bu.a, dx2, _, rfl, h2.ha, rfl, _, rfl, ?_⟩
      refine ixd (i := 0) hb3 rfl fun w hw => ?_
      refine ⟨_, rfl, _, rfl, _, rfl, _, rfl, (by show 4 ≤ sizeLine; decide), fun a ha => ?_⟩
      have kn : Kp [] H2 (upd H2 a (.tup [.int (s : Nat), .int (M : Nat), vo, vg])) := Kp.new ha
      refine ⟨bu, w, a, st, N, l, s, M, o, g, M + 1, es, rfl, hB2.new ha, kn.dp FreeS.nil hw, ⟨vo, vg, SqT.of upd_same, hvo, hvg⟩, hok.1, by omega, by omega, fun H4 k4 hB4 => ?_⟩
      have k24 : Kp bu.M H2 H4 := kn.all.trans k4
      have hb4 := k24.dpT hB2.freet btu2 hb3
      obtain ⟨dx4, as4, h4⟩ := hB4.ex
      refine ⟨_, rfl, bu.a, dx4, _, rfl, h4.ha, rfl, _, rfl, _, rfl, ?_⟩
      refine sla_from 1 hb4 fun w2 H5 hw2 k5 => ?_
      refine ⟨_, rfl, _, rfl, _, rfl, _, rfl, (by show 4 ≤ sizeLine; decide), fun a2 ha2 => ?_⟩
      have kn2 : Kp [] H5 (upd H5 a2 (.tup [.int (M : Nat), .int (e : Nat), vo, vg])) := Kp.new ha2
      refine ⟨bu, w2, a2, .cons st2 rest2, N, l, M, e, o, g, _, _, rfl, (hB4.kp0 k5).new ha2, kn2.dp FreeS.nil hw2, ⟨vo, vg, SqT.of upd_same, hvo, hvg⟩, hok.2, by omega, by rw [List.length_append]; omega, fun H6 k6 hB6 => ?_⟩
      refine q H6 (k2.trans (k24.trans (k5.all.trans (kn2.all.trans k6)))) ?_
      rw [standB]
      rw [← List.append_assoc]
      exact hB6
theorem bs_step (T : Txt K mg) (Te : Txe K mg T) (n : Nat) (d_stand_block : C8.Met P w K mg base (16 + n) T.C_Builder "stand_block" (spBB K (T.C_Builder, T.C_Edge) n) []) : C8.Met P w K mg base (16 + n + 1) T.C_Builder "stand_statement" (spBS K (T.C_Builder, T.C_Edge) (n + 1)) [] := by
  have nd := sc_bs.nd
  have d_plain := bp_ok (P := P) (w := w) (base := base) T Te
  have d_fresh := bfresh_ok (P := P) (w := w) (base := base) T
  have d_stand_condition := bc_ok (P := P) (w := w) (base := base) T Te 6
  refine metD T.cl_Builder T.e_Builder_stand_statement sc_bs (fun vs H Q E h => ?_) (fun f cdv A outer s0 H vs Q E hr h => ?_)
  · obtain ⟨m, v, sp, b, N, l, s, e, o, g, M, es, rfl, _⟩ := h
    rfl
  obtain ⟨bu, v, sp, st, N, l, s, e, o, g, M, es, rfl, hB, hb, ⟨vo, vg, hS, hvo, hvg⟩, hok, hn, hle, q⟩ := h
  have hu := hu_of hr
  have stu := st.tu
  refine ⟨_, (pss_cons (ps_asg (pv 2) (pg_tup rfl (pgs_cons (pg_name (i := 3) nd rfl (Or.inl rfl)) (pgs_cons (pg_name (i := 4) nd rfl (Or.inl rfl)) (pgs_cons (pg_name (i := 5) nd rfl (Or.inl rfl)) (pgs_cons (pg_name (i := 6) nd rfl (Or.inl rfl)) pgs_nil))))))
  (pss_cons (ps_asg (pe_ixc ix_tup (pv 1)) (pg_name (i := 7) nd rfl (Or.inl rfl)))
  (pss_one (ps_if (pt_cmpR op_eq (pv 7) pe_str (nomark _)) (pss_cons (ps_par (i := 8) (j := 9) (by rfl) nd rfl rfl (by decide) rfl rfl (pa_cons (pe_mt0 d_fresh hr (by omega) (pv 0)) (pa_cons (pe_mt0 d_fresh hr (by omega) (pv 0)) pa_nil)) (by rfl))
  (pss_cons (ps_expr (pe_mt d_stand_condition hr (by omega) (pv 0) (pa_cons (pe_ixc ix_tup (pv 1)) (pa_cons (pv 3) (pa_cons (pv 8) (pa_cons (pv 9) pa_nil))))))
  (pss_cons (ps_expr (pe_mt d_stand_block hr (by omega) (pv 0) (pa_cons (pe_ixc ix_tup (pv 1)) (pa_cons (pe_tup (pa_cons (pv 8) (pa_cons (pv 4) (pa_cons (pv 5) (pa_cons (pv 6) pa_nil))))) pa_nil))))
  (pss_one (ps_expr (pe_mt d_stand_block hr (by omega) (pv 0) (pa_cons (pe_ixc ix_tup (pv 1)) (pa_cons (pe_tup (pa_cons (pv 9) (pa_cons (pv 4) (pa_cons (pv 5) (pa_cons (pv 6) pa_nil))))) pa_nil)))))))) (pss_one (ps_if (pt_cmpR op_eq (pv 7) pe_str (nomark _)) (pss_cons (ps_asg (pe_mt0 d_fresh hr (by omega) (pv 0)) (pg_name (i := 8) nd rfl (Or.inl rfl)))
  (pss_cons (ps_expr (pe_mt d_stand_condition hr (by omega) (pv 0) (pa_cons (pe_ixc ix_tup (pv 1)) (pa_cons (pv 3) (pa_cons (pv 8) (pa_cons (pv 4) pa_nil))))))
  (pss_one (ps_expr (pe_mt d_stand_block hr (by omega) (pv 0) (pa_cons (pe_ixc ix_tup (pv 1)) (pa_cons (pe_tup (pa_cons (pv 8) (pa_cons (pv 3) (pa_cons (pv 4) (pa_cons (pv 3) pa_nil))))) pa_nil))))))) (pss_one (ps_if (pt_cmpR op_eq (pv 7) pe_str (nomark _)) (pss_one (ps_expr (pe_mt d_stand_block hr (by omega) (pv 0) (pa_cons (pe_ixc ix_tup (pv 1)) (pa_cons (pe_tup (pa_cons (pv 3) (pa_cons (pv 3) (pa_cons (pv 4) (pa_cons (pv 3) pa_nil))))) pa_nil))))) (pss_one (ps_expr (pe_mt d_plain hr (by omega) (pv 0) (pa_cons (pv 1) (pa_cons (pv 2) pa_nil))))))))))))), ?_⟩
  refine ⟨_, rfl, sp, _, rfl, hS, rfl, _, _, rfl, _, _, rfl, _, _, rfl, _, _, rfl, rfl, ?_⟩
  refine ⟨_, rfl, ?_⟩
  obtain ⟨dx, as, h⟩ := hB.ex
  have plainly : ∀ (x : Str) (more : List PyData), st.enc = .tuple (.str x :: more) → st.flat → spBP K (T.C_Builder, T.C_Edge) [.ref bu.a, v, .ref sp] H Q C8.E0 := fun x more _ hfl =>
    ⟨bu, v, sp, st, N, l, s, e, o, g, M, es, rfl, hfl, hB, hb, ⟨vo, vg, hS, hvo, hvg⟩, hok, hle, q⟩
  cases st with
  | ifs c b1 b2 =>
    rw [Stm.enc] at hb stu
    rw [Stm.ok] at hok
    rw [Stm.dp] at hn
    have cdp := c.dp_parts
    have es2 : (standS (.ifs c b1 b2) s e o g M) = ((standB b2 (M + 1) e o g (standB b1 M e o g (standC c s M (M + 1) (M + 2)).1).1).1, (standC c s M (M + 1) (M + 2)).2 ++ (standB b1 M e o g (standC c s M (M + 1) (M + 2)).1).2 ++ (standB b2 (M + 1) e o g (standB b1 M e o g (standC c s M (M + 1) (M + 2)).1).1).2) := by rw [standS]
    rw [es2] at hle q
    simp only [List.length_append] at hle
    refine ixd (i := 0) hb rfl fun w hw => ?_
    cases dp_str hw
    refine ⟨_, rfl, rfl, _, rfl, iteT ?_⟩
    refine ⟨_, rfl, bu.a, dx, _, rfl, h.ha, rfl, bu, M, es, rfl, hB, fun H1 k1 hB1 => ?_⟩
    obtain ⟨dx1, as1, h1⟩ := hB1.ex
    refine ⟨_, rfl, bu.a, dx1, _, rfl, h1.ha, rfl, bu, M + 1, es, rfl, hB1, fun H2 k2 hB2 => ?_⟩
    have hb2 := (k1.trans k2).dpT hB.freet stu hb
    obtain ⟨dx2, as2, h2⟩ := hB2.ex
    refine ⟨_, _, rfl, ?_⟩
    refine ⟨_, rfl, bu.a, dx2, _, rfl, h2.ha, rfl, _, rfl, ?_⟩
    refine ixd (i := 1) hb2 rfl fun w1 hw1 => ?_
    refine ⟨_, rfl, _, rfl, _, rfl, ?_⟩
    refine ⟨bu, w1, c, s, M, M + 1, M + 2, es, rfl, hB2, hw1, by omega, by omega, fun H3 k3 hB3 => ?_⟩
    have hb3 := k3.dpT hB2.freet stu hb2
    obtain ⟨dx3, as3, h3⟩ := hB3.ex
    refine ⟨_, rfl, bu.a, dx3, _, rfl, h3.ha, rfl, _, rfl, ?_⟩
    refine ixd (i := 2) hb3 rfl fun w2 hw2 => ?_
    refine ⟨_, rfl, _, rfl, _, rfl, _, rfl, (by show 4 ≤ sizeLine; decide), fun a ha => ?_⟩
    have kn : Kp [] H3 (upd H3 a (.tup [.int (M : Nat), .int (e : Nat), vo, vg])) := Kp.new ha
    refine ⟨bu, w2, a, b1, N, l, M, e, o, g, _, _, rfl, hB3.new ha, kn.dp FreeS.nil hw2, ⟨vo, vg, SqT.of upd_same, hvo, hvg⟩, hok.2.2.1, by omega, by rw [List.length_append]; omega, fun H4 k4 hB4 => ?_⟩
    have k34 : Kp bu.M H3 H4 := kn.all.trans k4
    have hb4 := k34.dpT hB3.freet stu hb3
    obtain ⟨dx4, as4, h4⟩ := hB4.ex
    refine ⟨_, rfl, bu.a, dx4, _, rfl, h4.ha, rfl, _, rfl, ?_⟩
    refine ixd (i := 3) hb4 rfl fun w3 hw3 => ?_
    refine ⟨_, rfl, _, rfl, _, rfl, _, rfl, (by show 4 ≤ sizeLine; decide), fun a2 ha2 => ?_⟩
    have kn2 : Kp [] H4 (upd H4 a2 (.tup [.int ((M + 1 : Nat)), .int (e : Nat), vo, vg])) := Kp.new ha2
    refine ⟨bu, w3, a2, b2, N, l, M + 1, e, o, g, _, _, rfl, hB4.new ha2, kn2.dp FreeS.nil hw3, ⟨vo, vg, SqT.of upd_same, hvo, hvg⟩, hok.2.2.2, by omega, by rw [List.length_append, List.length_append]; omega, fun H5 k5 hB5 => ?_⟩
    refine q H5 (k1.trans (k2.trans (k3.trans (k34.trans (kn2.all.trans k5))))) ?_
    simp only [← List.append_assoc]
    exact hB5
  | «while» c b1 =>
    rw [Stm.enc] at hb stu
    rw [Stm.ok] at hok
    rw [Stm.dp] at hn
    have cdp := c.dp_parts
    have es2 : (standS (.while c b1) s e o g M) = ((standB b1 M s e s (standC c s M e (M + 1)).1).1, (standC c s M e (M + 1)).2 ++ (standB b1 M s e s (standC c s M e (M + 1)).1).2) := by rw [standS]
    rw [es2] at hle q
    simp only [List.length_append] at hle
    refine ixd (i := 0) hb rfl fun w hw => ?_
    cases dp_str hw
    refine ⟨_, rfl, rfl, _, rfl, iteF ?_⟩
    refine ⟨_, rfl, rfl, _, rfl, iteT ?_⟩
    refine ⟨_, rfl, bu.a, dx, _, rfl, h.ha, rfl, bu, M, es, rfl, hB, fun H1 k1 hB1 => ?_⟩
    have hb1 := k1.dpT hB.freet stu hb
    obtain ⟨dx1, as1, h1⟩ := hB1.ex
    refine ⟨_, rfl, bu.a, dx1, _, rfl, h1.ha, rfl, _, rfl, ?_⟩
    refine ixd (i := 1) hb1 rfl fun w1 hw1 => ?_
    refine ⟨_, rfl, _, rfl, _, rfl, ?_⟩
    refine ⟨bu, w1, c, s, M, e, M + 1, es, rfl, hB1, hw1, by omega, by omega, fun H3 k3 hB3 => ?_⟩
    have hb3 := k3.dpT hB1.freet stu hb1
    obtain ⟨dx3, as3, h3⟩ := hB3.ex
    refine ⟨_, rfl, bu.a, dx3, _, rfl, h3.ha, rfl, _, rfl, ?_⟩
    refine ixd (i := 2) hb3 rfl fun w2 hw2 => ?_
    refine ⟨_, rfl, _, rfl, _, rfl, _, rfl, (by show 4 ≤ sizeLine; decide), fun a ha => ?_⟩
    have kn : Kp [] H3 (upd H3 a (.tup [.int (M : Nat), .int (s : Nat), .int (e : Nat), .int (s : Nat)])) := Kp.new ha
    refine ⟨bu, w2, a, b1, N, true, M, s, e, s, _, _, rfl, hB3.new ha, kn.dp FreeS.nil hw2, ⟨_, _, SqT.of upd_same, .inl rfl, .inl rfl⟩, hok.2.2, by omega, by rw [List.length_append]; omega, fun H4 k4 hB4 => ?_⟩
    refine q H4 (k1.trans (k3.trans (kn.all.trans k4))) ?_
    simp only [← List.append_assoc]
    exact hB4
  | loop b1 =>
    rw [Stm.enc] at hb stu
    rw [Stm.ok] at hok
    rw [Stm.dp] at hn
    have es2 : (standS (.loop b1) s e o g M) = standB b1 s s e s M := by rw [standS]
    rw [es2] at hle q
    refine ixd (i := 0) hb rfl fun w hw => ?_
    cases dp_str hw
    refine ⟨_, rfl, rfl, _, rfl, iteF ?_⟩
    refine ⟨_, rfl, rfl, _, rfl, iteF ?_⟩
    refine ⟨_, rfl, rfl, _, rfl, iteT ?_⟩
    refine ⟨_, rfl, bu.a, dx, _, rfl, h.ha, rfl, _, rfl, ?_⟩
    refine ixd (i := 1) hb rfl fun w2 hw2 => ?_
    refine ⟨_, rfl, _, rfl, _, rfl, _, rfl, (by show 4 ≤ sizeLine; decide), fun a ha => ?_⟩
    have kn : Kp [] H (upd H a (.tup [.int (s : Nat), .int (s : Nat), .int (e : Nat), .int (s : Nat)])) := Kp.new ha
    exact ⟨bu, w2, a, b1, N, true, s, s, e, s, M, es, rfl, hB.new ha, kn.dp FreeS.nil hw2, ⟨_, _, SqT.of upd_same, .inl rfl, .inl rfl⟩, hok, by omega, hle, fun H4 k4 hB4 => q H4 (kn.all.trans k4) hB4⟩
  | _ =>
    have pl := plainly _ _ (by rw [Stm.enc]) True.intro
    rw [Stm.enc] at hb
    refine ixd (i := 0) hb rfl fun w hw => ?_
    cases dp_str hw
    refine ⟨_, rfl, rfl, _, rfl, iteF ?_⟩
    refine ⟨_, rfl, rfl, _, rfl, iteF ?_⟩
    refine ⟨_, rfl, rfl, _, rfl, iteF ?_⟩
    exact ⟨_, rfl, bu.a, dx, _, rfl, h.ha, rfl, _, rfl, _, rfl, pl⟩
end
end Sv
end
section
set_option Elab.async false
set_option linter.all false
set_option autoImplicit false
set_option maxRecDepth 100000
/-! W20: the package's graph of a program; values. -/
namespace Sv
open PySem PySem.Spec PyProof.Rows L2
open C8 (pe_c pe_mt pe_mt0 pe_mk pe_gc)
/-- a Graph object -/
structure GrAt (K : PySem.W.Frag) (CG CE : Addr) (H : Hp) (g : Addr) (es : List Edge) : Prop where
  ex : ∃ (dx t : Addr) (m : Nat) (as : List Addr), H g = some (.ins CG dx [("points", .int (m : Nat)), ("edges", .ref t)]) ∧ SqT K H t (as.map V.ref) ∧ Paired (EdgeAt K H CE) as es
/-- a Program object -/
structure ProgAt (K : PySem.W.Frag) (CP : Addr) (H : Hp) (pr : Addr) (N : List Str) (k : Nat) (b : Blk) : Prop where
  ex : ∃ (dx ti : Addr) (vb : V), H pr = some (.ins CP dx [("name", .str "p"), ("inputs", .ref ti), ("block", vb)]) ∧ SqT K H ti ((N.take k).map V.str) ∧ Dp K H vb b.enc
section
variable {K : PySem.W.Frag} {CG CE CP : Addr} {H H' : Hp} {g : Addr} {es : List Edge} {N : List Str} {k : Nat} {b : Blk} {M : List Addr}
theorem EdgeAt.kp0 {a : Addr} {e : Edge} (h : EdgeAt K H CE a e) (k : Kp [] H H') : EdgeAt K H' CE a e := EdgeAt.kp (T := (0, CE)) h k FreeS.nil.t fun _ _ _ => by simp
theorem GrAt.kp0 (h : GrAt K CG CE H g es) (k : Kp [] H H') : GrAt K CG CE H' g es := by
  obtain ⟨dx, t, m, as, h1, h2, h3⟩ := h.ex
  exact ⟨dx, t, m, as, k.at h1 (by simp), k.sqT FreeS.nil.t h2, paired_mono (fun a e q => q.kp0 k) h3⟩
theorem ProgAt.kp0 (h : ProgAt K CP H g N k b) (kk : Kp [] H H') : ProgAt K CP H' g N k b := by
  obtain ⟨dx, ti, vb, h1, h2, h3⟩ := h.ex
  exact ⟨dx, ti, vb, kk.at h1 (by simp), kk.sqT FreeS.nil.t h2, kk.dp FreeS.nil h3⟩
end
def spGraphI (K : PySem.W.Frag) (CG CE : Addr) : Sp := fun vs H Q _ => ∃ (g dx l : Addr) (m : Nat) (as : List Addr) (es : List Edge), vs = [.ref g, .int (m : Nat), .ref l] ∧ H g = some (.ins CG dx []) ∧ H l = some (.lst (as.map V.ref)) ∧ Paired (EdgeAt K H CE) as es ∧ es.length ≤ 1000 ∧ CG ≠ CE ∧
  ∀ H', Kp [g] H H' → GrAt K CG CE H' g es → Q .non H'
def spBuI (K : PySem.W.Frag) (C : Addr × Addr) : Sp := fun vs H Q _ => ∃ (a dx : Addr), vs = [.ref a] ∧ H a = some (.ins C.1 dx []) ∧ ∀ (b : Bu) H', b.a = a → H b.l = none → Kp [a] H H' → BuAt K C H' b 3 [] → Q .non H'
def spGraphOf (K : PySem.W.Frag) (CP CG CE : Addr) : Sp := fun vs H Q _ => ∃ (pr : Addr) (N : List Str) (k : Nat) (b : Blk), vs = [.ref pr] ∧ PrOk N k b ∧ ProgAt K CP H pr N k b ∧ ∀ (g : Addr) H', Kp [] H H' → GrAt K CG CE H' g (graphOf b).2 → Q (.ref g) H'
theorem sc_graphi : FnScope ["self", "points", "edges"] ["self", "points", "edges"] (C8.fnScope (clsS 25 0)) := C8.fnScope_by (by decide +kernel)
theorem sc_bui : FnScope ["self"] ["self"] (C8.fnScope (clsS 26 0)) := C8.fnScope_by (by decide +kernel)
theorem sc_graphof : FnScope ["program", "builder"] ["program"] (C8.fnScope (topS 27)) := C8.fnScope_by (by decide +kernel)
theorem paired_left {α β : Type} {F : α → β → Prop} : ∀ {l : List α} {m : List β}, Paired F l m → ∀ a ∈ l, ∃ b, F a b
  | _, _, .nil, a, h => nomatch h
  | _, _, .cons x t, a, h => by
    rcases List.mem_cons.mp h with rfl | h
    · exact ⟨_, x⟩
    · exact paired_left t a h
theorem paired_at {α β : Type} {F : α → β → Prop} : ∀ {l : List α} {m : List β} {i : Nat} {a : α}, Paired F l m → l[i]? = some a → ∃ b, m[i]? = some b ∧ F a b
  | _, _, i, a, .nil, h => by simp at h
  | _, _, 0, a, .cons x t, h => ⟨_, rfl, by simp at h; rw [← h]; exact x⟩
  | _, _, i + 1, a, .cons x t, h => by
    obtain ⟨b, h1, h2⟩ := paired_at (i := i) t (by simpa using h)
    exact ⟨b, by simpa using h1, h2⟩
section
variable {P : Program} {w : World} {K : PySem.W.Frag} {mg : Str → Option Value} {base : Heap}
set_option maxHeartbeats 1000000
theorem bstand_ok (T : Txt K mg) (Te : Txe K mg T) : ∀ n, C8.Met P w K mg base (16 + n) T.C_Builder "stand_statement" (spBS K (T.C_Builder, T.C_Edge) n) [] ∧ C8.Met P w K mg base (16 + n) T.C_Builder "stand_block" (spBB K (T.C_Builder, T.C_Edge) n) []
  | 0 => ⟨metVac T.cl_Builder T.e_Builder_stand_statement fun vs H Q E h => by
      obtain ⟨m, v, sp, st, N, l, s, e, o, g, M, es, _, _, _, _, _, hd, _⟩ := h
      exact absurd hd (Nat.not_lt_zero _), metVac T.cl_Builder T.e_Builder_stand_block fun vs H Q E h => by
      obtain ⟨m, v, sp, st, N, l, s, e, o, g, M, es, _, _, _, _, _, hd, _⟩ := h
      exact absurd hd (Nat.not_lt_zero _)⟩
  | n + 1 => ⟨bs_step T Te n (bstand_ok T Te n).2, bb_step T Te n (bstand_ok T Te n).1 (bstand_ok T Te n).2⟩
theorem bui_ok (T : Txt K mg) : C8.Mak P w K mg base 1 "Builder" T.C_Builder (spBuI K (T.C_Builder, T.C_Edge)) [] := by
  have nd := sc_bui.nd
  refine makD T.m_Builder sc_bui (fun vs H Q E h => ?_) (fun f cdv A outer s0 H vs Q E hr h => ?_)
  · obtain ⟨a, dx, rfl, _⟩ := h
    rfl
  obtain ⟨a, dx, rfl, ha, q⟩ := h
  have hu := hu_of hr
  refine ⟨_, (pss_cons (ps_fld (pv 0) pe_int rfl)
  (pss_one (ps_fld (pv 0) (pe_lst pa_nil) rfl))), ?_⟩
  refine ⟨_, rfl, a, T.C_Builder, dx, _, rfl, ha, T.cl_Builder, T.n_Builder_many, by show 0 < 1000; decide, ?_⟩
  refine ⟨(by show 0 ≤ sizeLine; decide), fun l hl => ?_⟩
  have a1 : (upd (upd H a (.ins T.C_Builder dx [("many", .int 3)])) l (.lst [])) a = some (.ins T.C_Builder dx [("many", .int 3)]) := by rw [upd_ne (ne_of_none upd_same hl)]; exact upd_same
  have al : a ≠ l := ne_of_none (upd_same (H := H) (o := .ins T.C_Builder dx [("many", .int 3)])) hl
  refine ⟨_, rfl, a, T.C_Builder, dx, _, rfl, a1, T.cl_Builder, T.n_Builder_made, by show 1 < 1000; decide, ?_⟩
  have hl0 : H l = none := by
    have := hl
    rw [upd_ne al.symm] at this
    exact this
  refine q ⟨a, l⟩ _ rfl hl0 ?_ ⟨dx, [], upd_same, ?_, .nil⟩
  · exact (Kp.put (by simp)).trans ((Kp.new hl).trans (Kp.put (by simp)))
  · show (upd _ a _) l = _
    rw [upd_ne al.symm]
    exact upd_same
theorem graphi_ok (T : Txt K mg) (Te : Txe K mg T) : C8.Mak P w K mg base 6 "Graph" T.C_Graph (spGraphI K T.C_Graph T.C_Edge) [] := by
  have nd := sc_graphi.nd
  have c_as_tuples := ast_ok (P := P) (w := w) (base := base) T Te 3
  refine makD T.m_Graph sc_graphi (fun vs H Q E h => ?_) (fun f cdv A outer s0 H vs Q E hr h => ?_)
  · obtain ⟨g, dx, l, m, as, es, rfl, _⟩ := h
    rfl
  obtain ⟨g, dx, l, m, as, es, rfl, hg, hl, hE, hle, hne, q⟩ := h
  have hu := hu_of hr
  have alen := Paired.length hE
  refine ⟨_, (pss_cons (ps_fld (pv 0) (pe_c c_as_tuples hr (by omega) rfl (pa_cons (pv 1) pa_nil)) rfl)
  (pss_one (ps_fld (pv 0) (pe_c c_as_tuples hr (by omega) rfl (pa_cons (pv 2) pa_nil)) rfl))), ?_⟩
  refine ⟨_, rfl, _, rfl, .inl ⟨_, .int _, by rw [PyData.depth]; omega, by rw [norm]; rfl, fun v1 H1 h1 k1 => ?_⟩⟩
  rw [norm] at h1
  cases dp_int h1
  refine ⟨_, rfl, g, T.C_Graph, dx, _, rfl, k1.at hg (by simp), T.cl_Graph, T.n_Graph_points, by show 0 < 1000; decide, ?_⟩
  have k2 : Kp [g] H (upd H1 g (.ins T.C_Graph dx [("points", .int (m : Nat))])) := k1.all.trans (Kp.put (by simp))
  have g2 : (upd H1 g (.ins T.C_Graph dx [("points", .int (m : Nat))])) g = some (.ins T.C_Graph dx [("points", .int (m : Nat))]) := upd_same
  have gl : l ∉ [g] := by
    rw [List.mem_singleton]
    exact ne_of hl hg (by intro z; cases z)
  have fg : FreeT [g] H := fun b hb => by rw [List.mem_singleton] at hb; rw [hb, hg]; rfl
  have edge : ∀ {H' : Hp}, Kp [g] H H' → Paired (EdgeAt K H' T.C_Edge) as es := fun k => paired_mono (fun a e h => EdgeAt.kp (T := (0, T.C_Edge)) h k fg fun dx' v' e1 hm => by
    rw [List.mem_singleton] at hm
    rw [hm, hg] at e1
    injection e1 with e1
    injection e1 with e2 _ _
    exact hne e2) hE
  change (fun H2 : Hp => _) (upd H1 g (.ins T.C_Graph dx [("points", .int (m : Nat))]))
  generalize upd H1 g (.ins T.C_Graph dx [("points", .int (m : Nat))]) = H2 at *
  have l2 := k2.at hl gl
  refine ⟨_, rfl, .ref l, rfl, .inr (.inr ⟨by omega, l, as, rfl, SqL.of l2, by omega, fun a ha => ?_, fun t H3 ht0 ht k3 => ?_⟩)⟩
  · obtain ⟨e, dx', v', h1, _⟩ := paired_left (edge k2) a ha
    exact ⟨dx', _, h1⟩
  have g3 := k3.at g2 (by simp)
  refine ⟨_, rfl, g, T.C_Graph, dx, _, rfl, g3, T.cl_Graph, T.n_Graph_edges, by show 1 < 1000; decide, ?_⟩
  have k4 : Kp [g] H3 (upd H3 g (.ins T.C_Graph dx [("points", .int (m : Nat)), ("edges", .ref t)])) := Kp.put (by simp)
  have k04 : Kp [g] H (upd H3 g (.ins T.C_Graph dx [("points", .int (m : Nat)), ("edges", .ref t)])) := k2.trans (k3.all.trans k4)
  have f3 : FreeT [g] H3 := fun b hb => by rw [List.mem_singleton] at hb; rw [hb, g3]; rfl
  exact q _ k04 ⟨dx, t, m, as, upd_same, k4.sqT f3 (SqT.of ht), edge k04⟩
theorem graphof_ok (T : Txt K mg) (Te : Txe K mg T) (hne : T.C_Graph ≠ T.C_Edge) : C8.Cal P w K mg base 35 "graph_of" (spGraphOf K T.C_Program T.C_Graph T.C_Edge) [] := by
  have nd := sc_graphof.nd
  have m_Builder := bui_ok (P := P) (w := w) (base := base) T
  have m_Graph := graphi_ok (P := P) (w := w) (base := base) T Te
  have d_tie := tie_ok (P := P) (w := w) (base := base) T Te
  have d_stand_block := (bstand_ok (P := P) (w := w) (base := base) T Te 18).2
  refine calD T.d_graph_of sc_graphof (fun vs H Q E h => ?_) (fun f cdv A outer s0 H vs Q E hr h => ?_)
  · obtain ⟨pr, N, k, b, rfl, _⟩ := h
    rfl
  obtain ⟨pr, N, k, b, rfl, hP, hpr, q⟩ := h
  have hu := hu_of hr
  refine ⟨_, (pss_cons (ps_asg (pe_mk0 m_Builder hr (by omega) rfl) (pg_name (i := 1) nd rfl (Or.inl rfl)))
  (pss_cons (ps_expr (pe_mt d_stand_block hr (by omega) (pv 1) (pa_cons (pe_fld (pv 0) rfl) (pa_cons (pe_tup (pa_cons (pe_gc rfl T.g_BEGIN) (pa_cons (pe_gc rfl T.g_FINISH) (pa_cons pe_non (pa_cons pe_non pa_nil))))) pa_nil))))
  (pss_cons (ps_expr (pe_mt d_tie hr (by omega) (pv 1) (pa_cons (pe_gc rfl T.g_FINISH) (pa_cons (pe_tup (pa_cons pe_str (pa_cons pe_int pa_nil))) (pa_cons (pe_gc rfl T.g_END) pa_nil)))))
  (pss_one (ps_ret (pe_mk m_Graph hr (by omega) rfl (pa_cons (pe_fld (pv 1) rfl) (pa_cons (pe_fld (pv 1) rfl) pa_nil)))))))), ?_⟩
  have gl := graph_len hP.ok
  have hsz := hP.size
  have hbd := hP.dp
  have gl2 : (graphOf b).2.length = (standB b 0 2 0 0 3).2.length + 1 := by show ((standB b 0 2 0 0 3).2 ++ [_]).length = _; rw [List.length_append]; rfl
  refine fun a dx ha hdx hne1 => ?_
  have k1 : Kp [] H (upd (upd H dx (.own a)) a (.ins T.C_Builder dx [])) := (Kp.new hdx).trans (Kp.new (by rw [upd_ne hne1.symm]; exact ha))
  refine ⟨a, dx, rfl, upd_same, fun bu H1 hba hbl k2 hB => ⟨rfl, ?_⟩⟩
  subst hba
  have k12 : Kp [] H H1 := fun g o hg1 hg2 => k2 g o (by simpa using ne_of_none hg2 ha) (k1 g o hg1 hg2)
  have hbl0 : H bu.l = none := k1.free hbl
  have out : ∀ {H' : Hp}, Kp bu.M H1 H' → Kp [] H H' := fun kk g o hg1 hg2 => kk g o (by
    simp only [List.mem_cons, List.not_mem_nil, or_false, not_or]
    exact ⟨ne_of_none hg2 ha, ne_of_none hg2 hbl0⟩) (k12 g o hg1 hg2)
  obtain ⟨d1, as1, h1⟩ := hB.ex
  obtain ⟨pdx, ti, vb, hp1, hp2, hp3⟩ := (hpr.kp0 k12).ex
  refine ⟨_, rfl, bu.a, d1, _, rfl, h1.ha, rfl, ?_⟩
  refine ⟨_, rfl, pr, T.C_Program, pdx, _, _, rfl, hp1, T.cl_Program, T.n_Program_block, rfl, ?_⟩
  refine ⟨(by show 4 ≤ sizeLine; decide), fun sp hsp => ?_⟩
  refine ⟨bu, vb, sp, b, N, false, 0, 2, 0, 0, 3, [], rfl, hB.new hsp, (Kp.new (M := []) hsp).dp FreeS.nil hp3, ⟨.non, .non, SqT.of upd_same, .inr ⟨rfl, rfl⟩, .inr ⟨rfl, rfl⟩⟩, hP.ok, by omega, by show 0 + _ ≤ _; omega, fun H2 k3 hB2 => ?_⟩
  rw [List.nil_append] at hB2
  have k13 : Kp bu.M H1 H2 := (Kp.new hsp).trans k3
  obtain ⟨d2, as2, h2⟩ := hB2.ex
  refine ⟨_, rfl, bu.a, d2, _, rfl, h2.ha, rfl, (by show 2 ≤ sizeLine; decide), fun x hx => ?_⟩
  have dg : Dp K (upd H2 x (.tup [.str "give", .int 0])) (.ref x) (Deed.give (.num 0)).enc := dp_new upd_same (.cons (.str _) (.cons (.int _) .nil))
  refine ⟨bu, 2, 1, _, .ref x, .give (.num 0), _, rfl, hB2.new hx, dg, by omega, fun H3 k4 hB3 => ?_⟩
  have k14 : Kp bu.M H1 H3 := k13.trans ((Kp.new hx).trans k4)
  obtain ⟨d3, as3, h3⟩ := hB3.ex
  refine ⟨_, rfl, bu.a, T.C_Builder, d3, _, _, rfl, h3.ha, T.cl_Builder, T.n_Builder_many, rfl, ?_⟩
  refine ⟨_, rfl, bu.a, T.C_Builder, d3, _, _, rfl, h3.ha, T.cl_Builder, T.n_Builder_made, rfl, ?_⟩
  refine fun g gx hg hgx hne2 => ?_
  have k5 : Kp [] H3 (upd (upd H3 gx (.own g)) g (.ins T.C_Graph gx [])) := (Kp.new hgx).trans (Kp.new (by rw [upd_ne hne2.symm]; exact hg))
  have h5 := h3.kp0 k5
  refine ⟨g, gx, bu.l, _, as3, (graphOf b).2, rfl, upd_same, h5.hl, h5.he, by omega, hne, fun H6 k6 hG => ⟨rfl, ?_⟩⟩
  have k36 : Kp [] H3 H6 := fun y o hy1 hy2 => k6 y o (by simpa using ne_of_none hy2 hg) (k5 y o hy1 hy2)
  exact q g H6 ((out k14).trans k36) hG
end
end Sv
end
section
set_option Elab.async false
set_option linter.all false
set_option autoImplicit false
set_option maxRecDepth 100000
/-! W21: enumerate over a tuple. -/
namespace Sv
open PySem PySem.Spec PyProof.Rows L2
set_option maxHeartbeats 2000000 in
theorem meets_enumerate_newT (l : Addr) (items : Array Value) (n : Nat) (dct : Option Addr) (sl : Array (Option Value)) :
    Meets (Builtin.«enumerate.__new__» ⟨[.type "enumerate", .ref l], []⟩) (fun _ R s => s.heap.get? l = some { cls := .type "tuple", dict := dct, data := .seq items n, slots := sl } ∧
      R (.ok (.ret (.ref (s.heap.push { cls := .type "tuple_iterator", data := .fields #[.ref l, .int 0 0] }).objs.size)))
        { s with heap := (s.heap.push { cls := .type "tuple_iterator", data := .fields #[.ref l, .int 0 0] }).push { cls := .type "enumerate", data := .fields #[.none, .bool false, .ref s.heap.objs.size, rawInt 0, .none, .none] } }) :=
  .of_wp fun prog w A R s h => by
    obtain ⟨hp, g, d, tk, os⟩ := s; obtain ⟨hl, h⟩ := h
    have hsub := sub_enumerate
    have hL : Heap.IsTuple (Shared.heap ⟨hp, g, d, tk, os⟩) l items := ⟨_, hl, rfl, n, rfl⟩
    wp_walk using AutoSeq1.wpAny_loadPart' hl
    refine wpAny_stack_any fun st => wpAny_pure ?_
    split
    · rename_i c _ _ _ _ _
      cases (c == Value.type "enumerate")
      · wp_walk using AutoSeq1.wpAny_loadPart' hl, wpAny_pyIter_tuple hL
        exact ⟨_, rfl, h⟩
      · wp_walk using AutoSeq1.wpAny_loadPart' hl, wpAny_pyIter_tuple hL
        exact ⟨_, rfl, h⟩
    · wp_walk using AutoSeq1.wpAny_loadPart' hl, wpAny_pyIter_tuple hL
      exact ⟨_, rfl, h⟩
section
variable {prog : Program} {w : World} {A : Around} {E : Value → Shared → Prop} {s : Shared}
theorem call_enumerate_tup {l : Addr} {items : Array Value} {Q : Value → Shared → Prop} (hL : s.heap.IsTuple l items)
    (h : ∀ h', IsEnum h' (s.heap.objs.size + 1) s.heap.objs.size 0 .none → h'.IsTupleIter s.heap.objs.size l 0 → h'.objs.size = s.heap.objs.size + 2 →
      (∀ b o, s.heap.get? b = some o → h'.get? b = some o) → Q (.ref (s.heap.objs.size + 1)) { s with heap := h' }) :
    wpAny (model prog w) A (call (.type "enumerate") [.ref l]) Q E s := by
  obtain ⟨⟨c, dct, dt, sl⟩, hl, hc, n, hd⟩ := hL
  replace hc : c = .type "tuple" := hc
  replace hd : dt = .seq items n := hd
  subst hc hd
  refine callType_new F.called_enumerate (by decide) (F.typeCall_enumerate_1 _) (F.newCall_enumerate_1 _) (fun obj => F.args_object_init_2 obj _) F.entry_enumerate_new
    (meets_enumerate_newT l items n dct sl) ⟨hl, ?_⟩
  have hz : (s.heap.push { cls := .type "tuple_iterator", data := .fields #[.ref l, .int 0 0] }).objs.size = s.heap.objs.size + 1 := Heap.size_push ..
  show _ ∧ _
  rw [hz]
  have he : IsEnum ((s.heap.push { cls := .type "tuple_iterator", data := .fields #[.ref l, .int 0 0] }).push
      { cls := .type "enumerate", data := .fields #[.none, .bool false, .ref s.heap.objs.size, rawInt 0, .none, .none] }) (s.heap.objs.size + 1) s.heap.objs.size 0 .none := by
    have := Heap.get?_push_size (s.heap.push { cls := .type "tuple_iterator", data := .fields #[.ref l, .int 0 0] })
      (o := { cls := .type "enumerate", data := .fields #[.none, .bool false, .ref s.heap.objs.size, rawInt 0, .none, .none] }) rfl
    rw [hz] at this; exact this
  refine ⟨⟨_, he, rfl⟩, h _ he ⟨_, Heap.get?_push_of_some _ (Heap.get?_push_size _ rfl), rfl, rfl⟩ (by rw [Heap.size_push, hz]) fun b o x => Heap.get?_push_of_some _ (Heap.get?_push_of_some _ x)⟩
end
/-- the tuple at a, each item in a new pair -/
def IteT (K : PySem.W.Frag) (a : Addr) : It :=
  ⟨fun i H => ∃ (xs : List V) (x : V), SqT K H a xs ∧ xs[i]? = some x, fun i H v H' => ∃ T x, v = .ref T ∧ H T = none ∧ H' = upd H T (.tup [.int (i : Nat), x]) ∧ ∀ xs, SqT K H a xs → xs[i]? = some x, fun i H => ∃ xs : List V, SqT K H a xs ∧ xs.length = i⟩
theorem walk_enumT {K : PySem.W.Frag} {a : Addr} {xs : List V} : Walk (IteT K a) xs.length (fun H => SqT K H a xs) (YPair (fun i => some (.int (i : Nat))) (fun i => xs[i]?)) := by
  refine ⟨fun i _ hi q => ⟨xs, xs[i], q, by simp [hi]⟩, fun _ q => ⟨xs, q, rfl⟩, fun i H v H' _ q y => ?_⟩
  obtain ⟨T, x, h1, h2, h3, h4⟩ := y
  exact ⟨T, .int (i : Nat), x, h1, h2, h3, rfl, h4 xs q⟩
theorem turn_enumT {P : Program} {w : World} {K : PySem.W.Frag} {elts : List Expr} {kk : Nat} {tpos : Pos} (a e it : Addr) (ha1 : a ≠ it) (ha2 : e ≠ a) :
    Turn P w K (.Tuple elts kk tpos) (IteT K a) [e, it] e (fun i h => (∃ old, IsEnum h e it ((i : Nat) : Int) old) ∧ h.IsTupleIter it a i ∧ e ≠ it) where
  mem := by simp
  obj := fun i h st b hb => by
    obtain ⟨⟨old, he⟩, ⟨o, ho, hc, hd⟩, _⟩ := st
    have e' : b = e ∨ b = it := by simpa using hb
    rcases e' with z | z
    · rw [z]; exact ⟨_, he, fun v q => nomatch q⟩
    · rw [z]; exact ⟨o, ho, fun v q => by rw [hd] at q; cases q⟩
  keep := fun i h h' st k => let ⟨⟨old, he⟩, hi, hne⟩ := st; ⟨⟨old, k e (by simp) _ he⟩, hi.at fun o q => k it (by simp) o q, hne⟩
  item := by
    intro X hP hw hK hc i pins s σ H E I hf st hg
    subst hP hw hK
    obtain ⟨⟨old, he⟩, hit, hne⟩ := st
    obtain ⟨xs, x, hq, hx⟩ := hg
    obtain ⟨its, rv, p, hz⟩ := I.tuple hq
    obtain ⟨u, hu, ru⟩ := rv.get hx
    have hel : e < s.heap.objs.size := Heap.lt_size he
    have hil : it < s.heap.objs.size := by obtain ⟨_, q, _⟩ := hit; exact Heap.lt_size q
    have hlt : i < its.toArray.size := by
      have := (List.getElem?_eq_some_iff.mp hu).1
      simpa using this
    have D := Draws.tuple (prog := X.prog) (w := X.w) (A := X.A.in1) (I.ok.hd hc) it a ha1 its.toArray
    refine wpAny_pyNext_enum_itemD D he ⟨hit, p⟩ hlt hne (by simp [hne, ha2]) fun x2 h' tk hP2 ho hs' hT hsz hk => ?_
    have ex2 : x2 = u := by
      have h2 : its.toArray[i]? = some x2 := hP2
      have h3 : its.toArray[i]? = some u := by simpa using hu
      rw [h3] at h2
      exact (Option.some.inj h2).symm
    subst ex2
    obtain ⟨hit', _⟩ := hs'
    refine ⟨_, rfl, wpAny_letOwnedTupleGo_enum (s := { s with heap := h', toks := tk + 1 }) ho fun h'' he' sb => ?_⟩
    have hT2 : h''.get? s.heap.objs.size = some { cls := .type "tuple", data := .seq #[.int i tk, x2] } := (sb.2 _ (Nat.ne_of_gt hel)).trans hT
    have new : ObjOk X.prog X.w (upd H s.heap.objs.size (.tup [.int (i : Nat), x])) h'' s.heap.objs.size (.tup [.int (i : Nat), x]) :=
      ⟨by show 2 ≤ sizeLine; decide, [.int i tk, x2], .cons ⟨_, rfl⟩ (.cons ru .nil), ⟨_, hT2, rfl, _, rfl⟩⟩
    have I1 : Inv X pins σ (upd H s.heap.objs.size (.tup [.int (i : Nat), x])) { s with heap := h'', toks := tk + 1 } :=
      I.turnedNew (ch := [e, it]) (fun b ob hb q => (sb.2 b (fun z => hb (by simp [z]))).trans (hk b ob (fun z => hb (by simp [z])) (fun z => hb (by simp [z])) q)) hf (Nat.le_refl _) new
    refine ⟨.ref s.heap.objs.size, _, I1, rfl, ⟨_, x, rfl, I.hok.fresh (Nat.le_refl _), rfl, fun ys hy => by rw [I.tuple_inj hy hq]; exact hx⟩, ⟨⟨x2, ?_⟩, hit'.at fun o q => (sb.2 it (Ne.symm hne)).trans q, hne⟩, fun b hb => ?_⟩
    · have e1 : ((i + 1 : Nat) : Int) = (i : Int) + 1 := by omega
      rw [e1]; exact he'
    · have hb' : b < s.heap.objs.size := by
        have e' : b = e ∨ b = it := by simpa using hb
        rcases e' with z | z
        · rw [z]; exact hel
        · rw [z]; exact hil
      rw [upd_ne (Nat.ne_of_lt hb')]
      exact (hf b hb).1
  done := by
    intro X hP hw hK hc i pins s σ H E I hf st hg
    subst hP hw hK
    obtain ⟨⟨old, he⟩, hit, hne⟩ := st
    obtain ⟨xs, hq, hx⟩ := hg
    obtain ⟨its, rv, p, hz⟩ := I.tuple hq
    obtain ⟨f0, f1, f2, f3, f4, f5⟩ := hf it (by simp)
    have hl := rv.length
    have hi : i = its.toArray.size := by simp; omega
    subst hi
    have D := Draws.tuple (prog := X.prog) (w := X.w) (A := X.A.in1) (I.ok.hd hc) it a ha1 its.toArray
    exact wpAny_pyNext_enum_endD D he ⟨hit, p⟩ fun h' eb => ⟨rfl, I.turned (t' := s.toks) (fun b o hb q => eb b o hb q) f0 f1 f3 f4 f5⟩
  self := fun A i s Q E st h => let ⟨⟨_, he⟩, _⟩ := st; wpAny_pyIter_enum he h
def iEnumT (K : PySem.W.Frag) (ta : TA) : TI := fun σ H R => ta σ H fun vs H1 => ∃ a xs, vs = [.ref a] ∧ SqT K H1 a xs ∧ R (IteT K a) H1
theorem pi_enumT {X : Cx} {e : Expr} {ta : TA} {p pos tpos : Pos} {elts : List Expr} {kk : Nat} (hg : Gl X "enumerate") (hm : X.mg "enumerate" = none) (ha : PA X [e] ta) (hs : starEach [e] X.env = [(false, eval e X.env)] := by rfl) :
    PI X (.Tuple elts kk tpos) (.Call (.Name "enumerate" p) [e] [] pos) (iEnumT X.K ta) := by
  refine ⟨fun pins s σ H R I h => ?_⟩
  refine Call_ (ld_blt I hg hm boot_enumerate (PyProof.Rows.callWith_type1 (thn (ha.run pos pins s σ H _ I h) fun us s1 ⟨vs, H1, I1, r1, q1⟩ => ?_) hs rfl))
  obtain ⟨a, xs, ex, hq, q⟩ := q1
  subst ex
  cases r1 with
  | cons r rr =>
    cases rr
    cases r
    obtain ⟨its, rv, p', hz⟩ := I1.tuple hq
    refine call_enumerate_tup p' fun h' he hit hsz hk => wpAny_pyIter_enum he ?_
    have I2 : Inv X pins σ H1 { s1 with heap := h' } := I1.kept (t' := s1.toks) hk
    have al : a < s1.heap.objs.size := by obtain ⟨_, q, _⟩ := p'; exact Heap.lt_size q
    refine ⟨s1.heap.objs.size + 1, [s1.heap.objs.size + 1, s1.heap.objs.size], _, _, H1, rfl, I2, turn_enumT a (s1.heap.objs.size + 1) s1.heap.objs.size (Nat.ne_of_lt al) (Nat.ne_of_gt (Nat.lt_succ_of_lt al)), ⟨⟨.none, he⟩, hit, Nat.succ_ne_self _⟩, fun b hb => ?_, q⟩
    have e' : b = s1.heap.objs.size + 1 ∨ b = s1.heap.objs.size := by simpa using hb
    have hle : s1.heap.objs.size ≤ b := by
      rcases e' with z | z
      · rw [z]; exact Nat.le_add_right _ _
      · rw [z]; exact Nat.le_refl _
    exact I1.fpOk hle (I1.hok.fresh hle)
end Sv
end
section
set_option Elab.async false
set_option linter.all false
set_option autoImplicit false
set_option maxRecDepth 100000
/-! W22: the package's values, open deeds. -/
namespace Sv
open PySem PySem.Spec PyProof.Rows L2
open C8 (pe_c pe_mt pe_mt0 pe_mk pe_gc)
theorem pe_fldK {X : Cx} {K : PySem.W.Frag} {e : Expr} {f : Str} {ta : TE} {pos : Pos} (hK : X.K = K) (he : PE X e ta) (hb : attributeBase e f X.env (eval e X.env) = eval e X.env) : PE X (.Attribute e f pos) (tFld K ta f) := by
  subst hK
  exact pe_fld he hb
def spOpV (K : PySem.W.Frag) : Sp := fun vs H Q _ => ∃ (o : Opd) (d : Addr) (e : En), vs = [o.v, .ref d] ∧ NowAt H d e ∧ Q (.int (o.val e)) H
def spValP (K : PySem.W.Frag) : Sp := fun vs H Q _ => ∃ (v : V) (d : Addr) (o : Val) (N : List Str) (e : En), vs = [v, .ref d] ∧ Dp K H v o.enc ∧ o.ok N ∧ NowAt H d e ∧ Q (.int (o.eval e)) H
def spHolds (K : PySem.W.Frag) : Sp := fun vs H Q _ => ∃ (v : V) (d : Addr) (o : Pair) (e : En), vs = [v, .ref d] ∧ Dp K H v o.enc ∧ NowAt H d e ∧ Q (.bl (o.holds e)) H
def spOpen (K : PySem.W.Frag) : Sp := fun vs H Q _ => ∃ (v : V) (d : Addr) (o : Deed) (e : En), vs = [v, .ref d] ∧ Dp K H v o.enc ∧ NowAt H d e ∧ Q (.bl (o.open e)) H
theorem sc_opv : FnScope ["operand", "now"] ["operand", "now"] (C8.fnScope (topS 14)) := C8.fnScope_by (by decide +kernel)
theorem sc_valp : FnScope ["told", "now", "one", "other"] ["told", "now"] (C8.fnScope (topS 15)) := C8.fnScope_by (by decide +kernel)
theorem sc_holds : FnScope ["pair", "now", "one", "other"] ["pair", "now"] (C8.fnScope (topS 16)) := C8.fnScope_by (by decide +kernel)
theorem sc_open : FnScope ["deed", "values"] ["deed", "values"] (C8.fnScope (topS 28)) := C8.fnScope_by (by decide +kernel)
section
variable {P : Program} {w : World} {K : PySem.W.Frag} {mg : Str → Option Value} {base : Heap}
set_option maxHeartbeats 1000000
theorem opv_ok (T : Txt K mg) : C8.Cal P w K mg base 1 "operand_value" (spOpV K) [] := by
  have nd := sc_opv.nd
  refine calD T.d_operand_value sc_opv (fun vs H Q E h => ?_) (fun f cdv A outer s0 H vs Q E hr h => ?_)
  · obtain ⟨o, d, e, rfl, _⟩ := h
    rfl
  obtain ⟨o, d, e, rfl, hd, q⟩ := h
  have hu := hu_of hr
  refine ⟨_, (pss_one (ps_ret (pe_ifExp (pt_val (pe_callB (id := "isinstance") call_isi (by rfl) T.z_isinstance (by decide +kernel) (pa_cons (pv 0) (pa_cons (pe_bltn (v := .ty "str") rfl T.z_str (by decide +kernel) rfl) pa_nil)))) (pe_dget2 hu (pv 1) (pv 0) pe_int ⟨rfl, rfl, rfl, rfl⟩) (pv 0)))), ?_⟩
  cases o with
  | nm x =>
    refine ⟨_, rfl, _, _, _, _, true, rfl, ClsV.ty _, TyX.base (.str x), kit_ty (b := "str") (by decide +kernel), _, rfl, iteT ?_⟩
    refine ⟨_, rfl, d, rfl, .inl ⟨_, .inl hd⟩, _, rfl, _, DGet.k (k := Sum.inr x) hd, ?_⟩
    rw [kvs_getD]
    exact q
  | num j =>
    refine ⟨_, rfl, _, _, _, _, false, rfl, ClsV.ty _, TyX.base (.int j), kit_ty (b := "str") (by decide +kernel), _, rfl, iteF ?_⟩
    exact ⟨_, rfl, q⟩
theorem valp_ok (T : Txt K mg) : C8.Cal P w K mg base 2 "value_of" (spValP K) [] := by
  have nd := sc_valp.nd
  have c_operand_value := opv_ok (P := P) (w := w) (base := base) T
  refine calD T.d_value_of sc_valp (fun vs H Q E h => ?_) (fun f cdv A outer s0 H vs Q E hr h => ?_)
  · obtain ⟨v, d, o, N, e, rfl, _⟩ := h
    rfl
  obtain ⟨v, d, o, N, e, rfl, hv, hok, hd, q⟩ := h
  have hu := hu_of hr
  refine ⟨_, (pss_cons (ps_asg (pe_c c_operand_value hr (by omega) rfl (pa_cons (pe_ixc ix_tup (pv 0)) (pa_cons (pv 1) pa_nil))) (pg_name (i := 2) nd rfl (Or.inl rfl)))
  (pss_cons (ps_if (pt_cmpR op_eq (pe_ixc ix_tup (pv 0)) pe_str (nomark _)) (pss_one (ps_ret (pv 2))) pss_nil)
  (pss_cons (ps_asg (pe_c c_operand_value hr (by omega) rfl (pa_cons (pe_ixc ix_tup (pv 0)) (pa_cons (pv 1) pa_nil))) (pg_name (i := 3) nd rfl (Or.inl rfl)))
  (pss_cons (ps_if (pt_cmpR op_eq (pe_ixc ix_tup (pv 0)) pe_str (nomark _)) (pss_one (ps_ret (pe_op op_add (pv 2) (pv 3)))) pss_nil)
  (pss_one (ps_ret (pe_ifExp (pt_cmpR op_eq (pe_ixc ix_tup (pv 0)) pe_str (nomark _)) (pe_op op_sub (pv 2) (pv 3)) (pe_op op_mul (pv 2) (pv 3))))))))), ?_⟩
  refine ⟨_, rfl, ?_⟩
  cases o with
  | as x =>
    have hp : Dp K H v (.tuple [.str "as", x.enc]) := hv
    refine ixd (i := 1) hp rfl fun w hw => ?_
    cases opd_v hw
    refine ⟨_, rfl, x, d, e, rfl, hd, ?_⟩
    refine ⟨_, rfl, ?_⟩
    refine ixd (i := 0) hp rfl fun w hw => ?_
    cases dp_str hw
    exact ⟨rfl, _, rfl, iteT ⟨_, rfl, q⟩⟩
  | bin b x y =>
    have hp : Dp K H v (.tuple [.str b.word, x.enc, y.enc]) := hv
    refine ixd (i := 1) hp rfl fun w hw => ?_
    cases opd_v hw
    refine ⟨_, rfl, x, d, e, rfl, hd, ?_⟩
    refine ⟨_, rfl, ?_⟩
    refine ixd (i := 0) hp rfl fun w hw => ?_
    cases dp_str hw
    have no : ¬ V.str b.word = V.str "as" := by cases b <;> decide
    refine ⟨rfl, _, rfl, ?_⟩
    refine ite2 (fun z => absurd (of_decide_eq_true z) no) (fun _ => ?_)
    refine ⟨_, rfl, ?_⟩
    refine ixd (i := 2) hp rfl fun w hw => ?_
    cases opd_v hw
    refine ⟨_, rfl, y, d, e, rfl, hd, ?_⟩
    refine ⟨_, rfl, ?_⟩
    refine ixd (i := 0) hp rfl fun w hw => ?_
    cases dp_str hw
    refine ⟨rfl, _, rfl, ?_⟩
    cases b with
    | plus => exact iteT ⟨_, rfl, _, rfl, _, _, rfl, rfl, q⟩
    | less =>
      refine iteF ?_
      refine ⟨_, rfl, ?_⟩
      refine ixd (i := 0) hp rfl fun w hw => ?_
      cases dp_str hw
      exact ⟨rfl, _, rfl, iteT ⟨_, rfl, _, rfl, _, _, rfl, rfl, q⟩⟩
    | times =>
      refine iteF ?_
      refine ⟨_, rfl, ?_⟩
      refine ixd (i := 0) hp rfl fun w hw => ?_
      cases dp_str hw
      have hy : ∃ j, y = .num j ∧ -3 ≤ j ∧ j ≤ 3 := by
        have h2 : y.isNum := hok.2
        cases y with
        | nm z => exact h2.elim
        | num j => exact ⟨j, rfl, h2⟩
      obtain ⟨j, rfl, j1, j2⟩ := hy
      refine ⟨rfl, _, rfl, iteF ⟨_, rfl, _, rfl, _, _, rfl, rfl, .inr ⟨?_, ?_⟩, q⟩⟩
      · show -(2 ^ 64) < j
        omega
      · show j < 2 ^ 64
        omega
theorem holds_ok (T : Txt K mg) : C8.Cal P w K mg base 2 "holds" (spHolds K) [] := by
  have nd := sc_holds.nd
  have c_operand_value := opv_ok (P := P) (w := w) (base := base) T
  refine calD T.d_holds sc_holds (fun vs H Q E h => ?_) (fun f cdv A outer s0 H vs Q E hr h => ?_)
  · obtain ⟨v, d, o, e, rfl, _⟩ := h
    rfl
  obtain ⟨v, d, ⟨pk, x, y⟩, e, rfl, hv, hd, q⟩ := h
  have hu := hu_of hr
  refine ⟨_, (pss_cons (ps_par (i := 2) (j := 3) (by rfl) nd rfl rfl (by decide) rfl rfl (pa_cons (pe_c c_operand_value hr (by omega) rfl (pa_cons (pe_ixc ix_tup (pv 0)) (pa_cons (pv 1) pa_nil))) (pa_cons (pe_c c_operand_value hr (by omega) rfl (pa_cons (pe_ixc ix_tup (pv 0)) (pa_cons (pv 1) pa_nil))) pa_nil)) (by rfl))
  (pss_cons (ps_if (pt_cmpR op_eq (pe_ixc ix_tup (pv 0)) pe_str (nomark _)) (pss_one (ps_ret (pe_cmpR op_eq (pv 2) (pv 3) (nomark _)))) pss_nil)
  (pss_one (ps_ret (pe_ifExp (pt_cmpR op_eq (pe_ixc ix_tup (pv 0)) pe_str (nomark _)) (pe_cmpR op_lt (pv 2) (pv 3) (nomark _)) (pe_cmpR op_le (pv 2) (pv 3) (nomark _))))))), ?_⟩
  have hp : Dp K H v (.tuple [.str pk.word, x.enc, y.enc]) := hv
  refine ⟨_, rfl, ?_⟩
  refine ixd (i := 1) hp rfl fun w hw => ?_
  cases opd_v hw
  refine ⟨_, rfl, x, d, e, rfl, hd, ?_⟩
  refine ⟨_, rfl, ?_⟩
  refine ixd (i := 2) hp rfl fun w hw => ?_
  cases opd_v hw
  refine ⟨_, rfl, y, d, e, rfl, hd, ?_⟩
  refine ⟨_, _, rfl, ?_⟩
  refine ⟨_, rfl, ?_⟩
  refine ixd (i := 0) hp rfl fun w hw => ?_
  cases dp_str hw
  refine ⟨rfl, _, rfl, ?_⟩
  cases pk with
  | is =>
    refine iteT ⟨_, rfl, _, rfl, rfl, ?_⟩
    have e1 : decide (V.int (x.val e) = V.int (y.val e)) = decide (x.val e = y.val e) := decide_eq_decide.mpr (by rw [V.int.injEq])
    show Q (.bl (decide (V.int (x.val e) = V.int (y.val e)))) H
    rw [e1]
    exact q
  | below =>
    refine iteF ?_
    refine ⟨_, rfl, ?_⟩
    refine ixd (i := 0) hp rfl fun w hw => ?_
    cases dp_str hw
    exact ⟨rfl, _, rfl, iteT ⟨_, rfl, _, rfl, _, _, rfl, rfl, q⟩⟩
  | most =>
    refine iteF ?_
    refine ⟨_, rfl, ?_⟩
    refine ixd (i := 0) hp rfl fun w hw => ?_
    cases dp_str hw
    exact ⟨rfl, _, rfl, iteF ⟨_, rfl, _, rfl, _, _, rfl, rfl, q⟩⟩
theorem open_ok (T : Txt K mg) : C8.Cal P w K mg base 3 "is_open" (spOpen K) [] := by
  have nd := sc_open.nd
  have c_holds := holds_ok (P := P) (w := w) (base := base) T
  refine calD T.d_is_open sc_open (fun vs H Q E h => ?_) (fun f cdv A outer s0 H vs Q E hr h => ?_)
  · obtain ⟨v, d, o, e, rfl, _⟩ := h
    rfl
  obtain ⟨v, d, o, e, rfl, hv, hd, q⟩ := h
  have hu := hu_of hr
  refine ⟨_, (pss_one (ps_ret (pe_or (pe_cmpR op_ne (pe_ixc ix_tup (pv 0)) pe_str (nomark _)) (pe_one (pe_cmpR op_eq (pe_c c_holds hr (by omega) rfl (pa_cons (pe_ixc ix_tup (pv 0)) (pa_cons (pv 1) pa_nil))) (pe_ixc ix_tup (pv 0)) (nomark _)))))), ?_⟩
  refine ⟨_, rfl, ?_⟩
  cases o with
  | test p t =>
    have hp : Dp K H v (.tuple [.str "test", p.enc, .bool t]) := hv
    refine ixd (i := 0) hp rfl fun w hw => ?_
    cases dp_str hw
    refine ⟨rfl, _, rfl, iteF ?_⟩
    refine ⟨_, rfl, ?_⟩
    refine ixd (i := 1) hp rfl fun w hw => ?_
    refine ⟨_, rfl, w, d, p, e, rfl, hw, hd, ?_⟩
    refine ⟨_, rfl, ?_⟩
    refine ixd (i := 2) hp rfl fun w2 hw2 => ?_
    cases dp_bl hw2
    refine ⟨rfl, ?_⟩
    have e1 : decide (V.bl (p.holds e) = V.bl t) = decide (p.holds e = t) := decide_eq_decide.mpr (by rw [V.bl.injEq])
    show Q (.bl (decide (V.bl (p.holds e) = V.bl t))) H
    rw [e1]
    exact q
  | _ =>
    refine ixd (i := 0) (show Dp K H v (.tuple (_ :: _)) from hv) rfl fun w hw => ?_
    cases dp_str hw
    exact ⟨rfl, _, rfl, iteT q⟩
end
end Sv
end
section
set_option Elab.async false
set_option linter.all false
set_option autoImplicit false
set_option maxRecDepth 100000
/-! W23: tally. -/
namespace Sv
open PySem PySem.Spec PyProof.Rows L2
open C8 (pe_c pe_mt pe_mt0 pe_mk pe_gc)
theorem pget_list {X : Cx} : PGet X (fun x y H Q => ∃ (p : Addr) (xs : List V) (i : Nat) (v : V), x = .ref p ∧ y = .int (i : Nat) ∧ SqL X.K H p xs ∧ xs[i]? = some v ∧ Q v H) := by
  intro pins s σ H o i ov iv Q I ro ri h
  obtain ⟨p, xs, k, z, rfl, rfl, hq, he, q⟩ := h
  cases ro
  obtain ⟨t, rfl⟩ := ri
  obtain ⟨its, r, pl, hz⟩ := I.list hq
  obtain ⟨w, ew, rw'⟩ := r.get he
  have hl := r.length
  have hk := (List.getElem?_eq_some_iff.mp he).1
  have hn := line63
  exact wpAny_getItem_list pl.isList (by omega) (by omega) (by simpa using ew) ⟨z, H, I, rw', q⟩
def spTally (K : PySem.W.Frag) (CG CE : Addr) : Sp := fun vs H Q _ => ∃ (g nd F : Addr) (turns : Nat) (es : List Edge) (env env' : En) (fl : List Int) (ds : List Deed) (q : Nat) (N : List Str), vs = [.ref g, .ref nd, .int (turns : Nat), .ref F] ∧ GrAt K CG CE H g es ∧ Good es ∧ (∀ e ∈ es, e.start ≠ 1) ∧ (∀ e ∈ es, e.deed.ok N) ∧ es.length ≤ 1000 ∧
  NowAt H nd env ∧ H F = some (.lst (intsOf fl)) ∧ fl.length = es.length ∧ Path es 0 env ds q env' ∧ ds.length ≤ turns ∧ (ds.length < turns → q = 1) ∧ env.length + turns ≤ 1000 ∧
  ∀ H', Kp [nd, F] H H' → H' F = some (.lst (intsOf (walkN es ds 0 fl))) → Q .non H'
theorem sc_tally : FnScope ["graph", "now", "turns", "found", "point", "gone", "index", "edge", "at"] ["graph", "now", "turns", "found"] (C8.fnScope (topS 30)) := C8.fnScope_by (by decide +kernel)
section
variable {P : Program} {w : World} {K : PySem.W.Frag} {mg : Str → Option Value} {base : Heap}
set_option maxHeartbeats 1000000
theorem tally_ok (T : Txt K mg) : C8.Cal P w K mg base 4 "tally" (spTally K T.C_Graph T.C_Edge) [] := by
  have nd := sc_tally.nd
  have c_is_open := open_ok (P := P) (w := w) (base := base) T
  have c_value_of := valp_ok (P := P) (w := w) (base := base) T
  refine calD T.d_tally sc_tally (fun vs H Q E h => ?_) (fun f cdv A outer s0 H vs Q E hr h => ?_)
  · obtain ⟨g, nd, F, turns, es, env, env', fl, ds, q, N, rfl, _⟩ := h
    rfl
  obtain ⟨g, nw, F, turns, es, env, env', fl, ds, qp, N, rfl, hG, hgood, h1, hok, hes, hnow, hF, hfl, hp, hdl, hq1, henv, q⟩ := h
  have hu := hu_of hr
  refine ⟨_, (pss_cons (ps_asg (pe_gc rfl T.g_BEGIN) (pg_name (i := 4) nd rfl (Or.inr rfl)))
  (pss_one (ps_for PassesOwn.never rfl (pi_range1 rfl T.z_range (pa_cons (pv 2) pa_nil)) (pg_name (i := 5) nd rfl (Or.inl rfl))
    (pss_cons (ps_if (pt_cmpR op_eq (pv 4) (pe_gc rfl T.g_END) (nomark _)) (pss_one ps_retN) pss_nil)
  (pss_cons (ps_asg (pe_ixc ix_list (pe_lc (own := [("at", 8), ("edge", 7)]) rfl nd (pi_enumT rfl T.z_enumerate (pa_cons (pe_fld (pv 0) rfl) pa_nil)) (blkOk_by (N := ["graph", "now", "turns", "found", "point", "gone", "index", "edge", "at"]) (sc := C8.fnScope (topS 30)) (by decide +kernel)) (fun _ _ _ _ _ => (pg_tupK (K := K) (n := 2) rfl rfl (pgs_cons (pg_name (i := 8) nd rfl (Or.inl rfl) (.inr rfl)) (pgs_cons (pg_name (i := 7) nd rfl (Or.inl rfl) (.inr rfl)) pgs_nil)))) (fun _ _ _ _ _ => pts_one (PW.pt (pw_and (pt_cmpR op_eq (pe_fldK (K := K) rfl (pv 7) rfl) (pv 4) (nomark _)) (pw_and1 (pt_val (pe_c c_is_open hr (by omega) rfl (pa_cons (pe_fldK (K := K) rfl (pv 7) rfl) (pa_cons (pv 1) pa_nil)))))))) (fun _ _ _ _ _ => (pv 8)))) (pg_name (i := 6) nd rfl (Or.inl rfl)))
  (pss_cons (ps_asg (pe_ix ix_tup (pe_fld (pv 0) rfl) (pv 6) (fun _ _ => rfl)) (pg_name (i := 7) nd rfl (Or.inl rfl)))
  (pss_cons (ps_augS (pv 3) (pv 6) pget_list pe_int ip_add set_list)
  (pss_cons (ps_if (pt_cmpR op_eq (pe_ixc ix_tup (pe_fld (pv 7) rfl)) pe_str (nomark _)) (pss_one (ps_dput hu (pv 1) (pe_ixc ix_tup (pe_fld (pv 7) rfl)) (pe_c c_value_of hr (by omega) rfl (pa_cons (pe_ixc ix_tup (pe_fld (pv 7) rfl)) (pa_cons (pv 1) pa_nil))) rfl)) pss_nil)
  (pss_one (ps_asg (pe_fld (pv 7) rfl) (pg_name (i := 4) nd rfl (Or.inr rfl)))))))))))), ?_⟩
  obtain ⟨gdx, gt, gm, as, hg1, hg2, hg3⟩ := hG.ex
  have alen := Paired.length hg3
  have fM : FreeT [nw, F] H := fun b hb => by
    simp only [List.mem_cons, List.not_mem_nil, or_false] at hb
    rcases hb with rfl | rfl
    · rw [show H b = some (.dK (kvs env)) from hnow]; rfl
    · rw [hF]; rfl
  have nF : nw ≠ F := ne_of (show H nw = some (.dK (kvs env)) from hnow) hF (by intro z; cases z)
  have gM : g ∉ [nw, F] := by
    simp only [List.mem_cons, List.not_mem_nil, or_false, not_or]
    exact ⟨ne_of hg1 (show H nw = some (.dK (kvs env)) from hnow) (by intro z; cases z), ne_of hg1 hF (by intro z; cases z)⟩
  have edges : ∀ {H' : Hp}, Kp [nw, F] H H' → Paired (EdgeAt K H' T.C_Edge) as es := fun k => paired_mono (fun a e h => EdgeAt.kp (T := (0, T.C_Edge)) h k fM fun dx' v' e1 hm => by
    simp only [List.mem_cons, List.not_mem_nil, or_false] at hm
    rcases hm with rfl | rfl
    · rw [show H a = some (.dK (kvs env)) from hnow] at e1; cases e1
    · rw [hF] at e1; cases e1) hg3
  refine ⟨_, rfl, _, rfl, by omega, by omega, ?_⟩
  refine for_range (n := ((turns : Nat) : Int).toNat) (fun i σ H' => ∃ (v5 v6 v7 v8 : Option V) (pt : Nat) (ev : En) (fi : List Int) (di : List Deed), σ = [some (.ref g), some (.ref nw), some (.int (turns : Nat)), some (.ref F), some (.int (pt : Nat)), v5, v6, v7, v8] ∧ Kp [nw, F] H H' ∧ NowAt H' nw ev ∧ H' F = some (.lst (intsOf fi)) ∧ fi.length = es.length ∧
      Path es pt ev di qp env' ∧ walkN es di pt fi = walkN es ds 0 fl ∧ di.length ≤ turns - i ∧ (di.length < turns - i → qp = 1) ∧ ev.length + (turns - i) ≤ 1000)
    ⟨_, _, _, _, 0, env, fl, ds, rfl, Kp.refl, hnow, hF, hfl, hp, rfl, hdl, hq1, henv⟩ ?_ ?_
  · rintro i _ H1 hi ⟨v5, v6, v7, v8, pt, ev, fi, di, rfl, k1, n1, F1, fil, hpi, ew, dl, dq, el⟩
    cases di with
    | nil =>
      have e1 : qp = 1 := dq (by show 0 < turns - i; omega)
      cases hpi
      subst e1
      refine ⟨_, rfl, rfl, _, rfl, iteT ?_⟩
      rw [walkN] at ew
      exact q H1 k1 (by rw [← ew]; exact F1)
    | cons d rest =>
      obtain ⟨e0, he0, hs0⟩ := hpi.start
      have pt1 : pt ≠ 1 := by rw [← hs0]; exact h1 e0 he0
      have no : ¬ V.int (pt : Nat) = V.int 1 := fun z => pt1 (by have := V.int.inj z; omega)
      refine ⟨_, rfl, rfl, _, rfl, ?_⟩
      refine ite2 (fun z => absurd (of_decide_eq_true z) no) (fun _ => ?_)
      obtain ⟨i0, rs, e, pl1, pl2, ei, es1, es2, _, hp6, ew2⟩ := hpi.step hgood
      have g1 := k1.at hg1 gM
      have t1 := k1.sqT fM hg2
      have E1 := edges k1
      have al : (as.map V.ref).length = es.length := by rw [List.length_map]; exact alen
      refine ⟨_, rfl, g, T.C_Graph, gdx, _, _, rfl, g1, T.cl_Graph, T.n_Graph_edges, rfl, gt, _, rfl, t1, fun D hD => ?_⟩
      refine lc_it (walk_enumT (xs := as.map V.ref)) (fun j H' => Kp [] H1 H' ∧ H' D = some (.lst ((places (hitO pt ev) (es.take j)).map fun n => V.int (n : Nat)))) ⟨Kp.new hD, upd_same⟩ (fun i H' _ ⟨kk, _⟩ => kk.sqT FreeS.nil.t t1) ?_ ?_
      · rintro i1 xx H6 H7 hi1 ⟨k6, hD6⟩ ⟨Tt, x0, y0, rfl, hT, rfl, hx0, hy0⟩
        cases hx0
        have k7 : Kp [] H1 (upd H6 Tt (.tup [.int (i1 : Nat), y0])) := k6.trans (Kp.new hT)
        change (as.map V.ref)[i1]? = some y0 at hy0
        rw [List.getElem?_map] at hy0
        obtain ⟨ea, hea, rfl⟩ := Option.map_eq_some_iff.mp hy0
        obtain ⟨e1, he1, hE⟩ := paired_at E1 hea
        obtain ⟨edx, ev1, hE1, hE2⟩ := hE.kp0 k7
        have D7 := (Kp.new (M := []) (o := .tup [.int (i1 : Nat), .ref ea]) hT).at hD6 (by simp)
        have n7 : NowAt (upd H6 Tt (.tup [.int (i1 : Nat), .ref ea])) nw ev := k7.at n1 (by simp)
        have eT : es.take (i1 + 1) = es.take i1 ++ [e1] := by rw [List.take_add_one, he1]; rfl
        have ltk : (es.take i1).length = i1 := by rw [List.length_take]; omega
        refine ⟨Tt, _, rfl, SqT.of upd_same, rfl, _, _, rfl, _, _, rfl, rfl, rfl, ?_⟩
        generalize upd H6 Tt (.tup [.int (i1 : Nat), .ref ea]) = H7 at *
        have nop : hitO pt ev e1 = false → Kp [] H1 H7 ∧ H7 D = some (.lst ((places (hitO pt ev) (es.take (i1 + 1))).map fun n => V.int (n : Nat))) := fun z => by
          refine ⟨k7, ?_⟩
          rw [eT, places_snoc, if_neg (by rw [z]; decide), List.append_nil]
          exact D7
        refine ⟨_, rfl, ea, T.C_Edge, edx, _, _, rfl, hE1, T.cl_Edge, T.n_Edge_start, rfl, ?_⟩
        refine ⟨_, rfl, rfl, _, rfl, ?_⟩
        refine ite2 (fun c1 => ?_) (fun c1 => ?_)
        · have c1' : e1.start = pt := by have := V.int.inj (of_decide_eq_true c1); omega
          refine ⟨_, rfl, ea, T.C_Edge, edx, _, _, rfl, hE1, T.cl_Edge, T.n_Edge_deed, rfl, ?_⟩
          refine ⟨_, rfl, ev1, nw, e1.deed, ev, rfl, hE2, n7, _, rfl, ?_⟩
          refine ite2 (fun c2 => ?_) (fun c2 => ?_)
          · have hh : hitO pt ev e1 = true := by unfold hitO; rw [decide_eq_true c1', c2]; rfl
            refine ⟨_, rfl, _, D7, sm' (by rw [List.length_map]; have := places_le (hitO pt ev) (es.take i1); omega), fun y o hy1 hy2 => ?_, ?_⟩
            · rw [upd_ne (ne_of_none hy2 hD)]
              exact k7 _ _ hy1 hy2
            · rw [upd_same, eT, places_snoc, if_pos hh, ltk, List.map_append]
              rfl
          · exact nop (by unfold hitO; rw [Bool.eq_false_iff.mpr c2, Bool.and_false])
        · refine nop ?_
          unfold hitO
          rw [decide_eq_false (fun z => c1 (decide_eq_true (congrArg V.int (by rw [z])))), Bool.false_and]
      · rintro H6 ⟨k6, hD6⟩
        rw [al, List.take_of_length_le (Nat.le_refl _), pl2] at hD6
        have i0l : i0 < es.length := (List.getElem?_eq_some_iff.mp ei).1
        have k06 : Kp [nw, F] H H6 := k1.trans k6.all
        have F6 := k6.at F1 (by simp)
        have n6 : NowAt H6 nw ev := k6.at n1 (by simp)
        refine ⟨D, _, _, .int (i0 : Nat), rfl, rfl, SqL.of hD6, atI_nat (j := 0) rfl, ?_⟩
        have E6 := edges k06
        have i0a : i0 < as.length := by omega
        obtain ⟨e', he', hE'⟩ := paired_at E6 (List.getElem?_eq_getElem i0a)
        rw [ei] at he'
        cases he'
        obtain ⟨edx, ev1, hE1, hE2⟩ := id hE'
        generalize hea : as[i0] = ea at hE' hE1
        have hat : atI (as.map V.ref) ((i0 : Nat) : Int) = some (.ref ea) := atI_nat (by rw [List.getElem?_map, List.getElem?_eq_getElem i0a, hea]; rfl)
        -- edge
        refine ⟨_, rfl, g, T.C_Graph, gdx, _, _, rfl, k06.at hg1 gM, T.cl_Graph, T.n_Graph_edges, rfl, _, rfl, gt, _, _, _, rfl, rfl, k06.sqT fM hg2, hat, ?_⟩
        -- found
        refine ⟨_, rfl, _, rfl, F, _, i0, _, rfl, rfl, SqL.of F6, intsOf_at (by omega), _, _, rfl, rfl, F, _, _, i0, rfl, rfl, F6, ixN_nat (by unfold intsOf; rw [List.length_map]; omega), ?_⟩
        have eb := intsOf_bump fi i0
        show (fun H7 : Hp => _) (upd H6 F (.lst ((intsOf fi).set i0 (.int (fi.getD i0 0 + 1)))))
        rw [eb]
        have k7 : Kp [nw, F] H (upd H6 F (.lst (intsOf (bump fi i0)))) := k06.trans (Kp.put (by simp))
        have F7 : (upd H6 F (.lst (intsOf (bump fi i0)))) F = some (.lst (intsOf (bump fi i0))) := upd_same
        have n7 : NowAt (upd H6 F (.lst (intsOf (bump fi i0)))) nw ev := by unfold NowAt; rw [upd_ne nF]; exact n6
        have E7 := edges k7
        show (fun H7 : Hp => _) (upd H6 F (.lst (intsOf (bump fi i0))))
        generalize upd H6 F (.lst (intsOf (bump fi i0))) = H7 at *
        obtain ⟨e', he', hE'⟩ := paired_at E7 (List.getElem?_eq_getElem i0a)
        rw [ei] at he'
        cases he'
        rw [hea] at hE'
        obtain ⟨edx, ev1, hE1, hE2⟩ := hE'
        have dok := hok e (List.mem_of_getElem? ei)
        rw [es2] at hE2 dok
        have hlen := bump_len fi i0
        refine ⟨_, rfl, ea, T.C_Edge, edx, _, _, rfl, hE1, T.cl_Edge, T.n_Edge_deed, rfl, ?_⟩
        have dl' : rest.length + 1 ≤ turns - i := dl
        have dq' : rest.length + 1 < turns - i → qp = 1 := dq
        have stay : d.run ev = ev → ∃ (v5' v6' v7' v8' : Option V) (pt' : Nat) (ev' : En) (fi' : List Int) (di' : List Deed), ([some (V.ref g), some (V.ref nw), some (V.int (turns : Nat)), some (V.ref F), some (V.int (e.stop : Nat)), some (V.int (0 + (i : Nat))), some (V.int (i0 : Nat)), some (V.ref ea), v8] : List (Option V)) = [some (.ref g), some (.ref nw), some (.int (turns : Nat)), some (.ref F), some (.int (pt' : Nat)), v5', v6', v7', v8'] ∧ Kp [nw, F] H H7 ∧ NowAt H7 nw ev' ∧ H7 F = some (.lst (intsOf fi')) ∧ fi'.length = es.length ∧
            Path es pt' ev' di' qp env' ∧ walkN es di' pt' fi' = walkN es ds 0 fl ∧ di'.length ≤ turns - (i + 1) ∧ (di'.length < turns - (i + 1) → qp = 1) ∧ ev'.length + (turns - (i + 1)) ≤ 1000 := fun hrun =>
          ⟨_, _, _, _, e.stop, ev, bump fi i0, rest, rfl, k7, n7, F7, by rw [hlen]; exact fil, by rw [hrun] at hp6; exact hp6, by rw [← ew2]; exact ew, by omega, fun z => dq' (by omega), by omega⟩
        cases d with
        | test p t =>
          refine ixd (i := 0) (show Dp K H7 ev1 (.tuple (_ :: _)) from hE2) rfl fun w hw => ?_
          cases dp_str hw
          refine ⟨rfl, _, rfl, iteF ?_⟩
          exact ⟨_, rfl, ea, T.C_Edge, edx, _, _, rfl, hE1, T.cl_Edge, T.n_Edge_end, rfl, stay rfl⟩
        | skip =>
          refine ixd (i := 0) (show Dp K H7 ev1 (.tuple (_ :: _)) from hE2) rfl fun w hw => ?_
          cases dp_str hw
          refine ⟨rfl, _, rfl, iteF ?_⟩
          exact ⟨_, rfl, ea, T.C_Edge, edx, _, _, rfl, hE1, T.cl_Edge, T.n_Edge_end, rfl, stay rfl⟩
        | give a =>
          refine ixd (i := 0) (show Dp K H7 ev1 (.tuple (_ :: _)) from hE2) rfl fun w hw => ?_
          cases dp_str hw
          refine ⟨rfl, _, rfl, iteF ?_⟩
          exact ⟨_, rfl, ea, T.C_Edge, edx, _, _, rfl, hE1, T.cl_Edge, T.n_Edge_end, rfl, stay rfl⟩
        | set x u =>
          have hE3 : Dp K H7 ev1 (.tuple [.str "set", .str x, u.enc]) := hE2
          refine ixd (i := 0) hE3 rfl fun w hw => ?_
          cases dp_str hw
          refine ⟨rfl, _, rfl, iteT ?_⟩
          refine ⟨_, rfl, ea, T.C_Edge, edx, _, _, rfl, hE1, T.cl_Edge, T.n_Edge_deed, rfl, ?_⟩
          refine ixd (i := 2) hE3 rfl fun w2 hw2 => ?_
          refine ⟨_, rfl, w2, nw, u, N, ev, rfl, hw2, dok.2, n7, ?_⟩
          refine ⟨_, rfl, _, rfl, ea, T.C_Edge, edx, _, _, rfl, hE1, T.cl_Edge, T.n_Edge_deed, rfl, ?_⟩
          refine ixd (i := 1) hE3 rfl fun w3 hw3 => ?_
          cases dp_str hw3
          refine ⟨nw, _, rfl, DPut.k (k := Sum.inr x) n7 (sm' (by unfold kvs; rw [List.length_map]; omega)), ?_⟩
          rw [kvs_put]
          have k8 : Kp [nw, F] H (upd H7 nw (.dK (kvs (En.put ev x (u.eval ev))))) := k7.trans (Kp.put (by simp))
          have E8 := edges k8
          obtain ⟨e', he', hE'⟩ := paired_at E8 (List.getElem?_eq_getElem i0a)
          rw [ei] at he'
          cases he'
          rw [hea] at hE'
          obtain ⟨edx2, ev2, hE21, hE22⟩ := hE'
          have pl := put_len ev x (u.eval ev)
          refine ⟨_, rfl, ea, T.C_Edge, edx2, _, _, rfl, hE21, T.cl_Edge, T.n_Edge_end, rfl, ?_⟩
          exact ⟨_, _, _, _, e.stop, En.put ev x (u.eval ev), bump fi i0, rest, rfl, k8, upd_same, by rw [upd_ne nF.symm]; exact F7, by rw [hlen]; exact fil, hp6, by rw [← ew2]; exact ew, by omega, fun z => dq' (by omega), by omega⟩
  · rintro _ H1 ⟨v5, v6, v7, v8, pt, ev, fi, di, rfl, k1, n1, F1, fil, hpi, ew, dl, dq, el⟩
    have e0 : di = [] := List.eq_nil_of_length_eq_zero (by omega)
    subst e0
    rw [walkN] at ew
    exact q H1 k1 (by rw [← ew]; exact F1)
end
end Sv
end
section
set_option Elab.async false
set_option linter.all false
set_option autoImplicit false
set_option maxRecDepth 100000
/-! W24: own errors with an own __init__; check_from_0. -/
namespace Sv
open PySem PySem.Spec PyProof.Rows L2
open C8 (pe_c pe_mt pe_mt0 pe_mk pe_gc)
/-- the class PointError: what its __init__ is -/
structure PeOk (K : PySem.W.Frag) (mg : Str → Option Value) (C : Addr) : Prop where
  gl : mg "PointError" = some (.ref C)
  rd : PySem.W.readsIn K C (.type "type") = true
  fc : PySem.W.findCls K (.ref C) (.type "type") "__init__" = some (.val (.builtin "ValueError.__init__"))
  ga : PySem.W.specialIn K (.ref C) "__getattribute__" = some (some (.builtin "type.__getattribute__"))
section
variable {X : Cx} {o e : Expr} {es : List Expr} {to te : TE} {ta : TA} {f : Str} {p p' p1 p2 pos : Pos} {C : Addr}
theorem pe_peinit {pl : Sem Bool} (hP : PeOk X.K X.mg C) (hg : Gl X "PointError") (ha : PA X (e :: es) ta)
    (hc : eval (.Call (.Attribute (.Name "PointError" p1) "__init__" p2) (e :: es) [] pos) X.env = (do
      let ov ← eval (.Name "PointError" p1) X.env
      standAt p2.atName
      let (f, first) ← holding [ov] (getMethod ov "__init__" pl)
      callWith pos f first (backTo pos (starEach (e :: es) X.env)) (backToKw pos (keywordEach [] X.env))) := by rfl)
    (he : starEach (e :: es) X.env = (false, eval e X.env) :: starEach es X.env := by rfl) (hpl : (backTo pos (starEach es X.env)).any (·.1) = false := by rfl) :
    PE X (.Call (.Attribute (.Name "PointError" p1) "__init__" p2) (e :: es) [] pos) (tVeI X.K ta) := by
  refine ⟨fun pins s σ H Q I h => ?_⟩
  refine PySem.W.methodCall_KW (ld_glob I hg hP.gl ?_ (by decide)) hc
  refine PySem.W.method_cls I.kIn hP.ga (PySem.W.cls_value I.kIn hP.rd hP.fc (by decide +kernel) ?_)
  show wpAny _ _ (callWith pos (Value.builtin "ValueError.__init__") [] (backTo pos (starEach (e :: es) X.env)) []) _ _ _
  refine PyProof.Rows.callWith_method1 (thn (ha.run pos pins _ σ H _ (I.tok _) h) fun us s1 ⟨vs, H1, I1, r1, a, C, ws, ev, hl, T, ea, q⟩ => ?_) he hpl
  subst ev
  cases r1 with
  | @cons _ u0 _ ur ra rw' =>
    obtain rfl : u0 = Value.ref a := ra
    have hlen : ur.length ≤ sizeLine := by
      rw [← Paired.length rw', sizeLine_eq]
      omega
    exact oinit_ok T I1 ea hlen fun s' J => ⟨.non, H1, J, rfl, q⟩
end
end Sv
end
section
set_option Elab.async false
set_option linter.all false
set_option autoImplicit false
set_option maxRecDepth 100000
/-! W25: the package's errors; is_inputs, check_rows, check_from_0. -/
namespace Sv
open PySem PySem.Spec PyProof.Rows L2
open C8 (pe_c pe_mt pe_mt0 pe_mk pe_gc)
/-- an own error class with an own __init__ -/
structure ErrC (K : PySem.W.Frag) (mg : Str → Option Value) (x qual : Str) (C : Addr) (st : Stmt) (ps : List Str) : Prop where
  gl : mg x = some (.ref C)
  ox : OexC K C
  no_value : PySem.W.findIn K (.ref C) "value" = some none
  no_what : PySem.W.findIn K (.ref C) "what" = some none
  ex : ∃ (f : Addr) (fd : FuncData), PySem.W.findIn K (.ref C) "__init__" = some (some (.ref f)) ∧ PySem.W.typeIn K (.ref f) = some (.type "function") ∧ C8.Fun K "__init__" qual st f fd ∧ Binds K fd ps []
structure Txx (K : PySem.W.Frag) (mg : Str → Option Value) : Type where
  C_PE : Addr
  pe : PeOk K mg C_PE
  C_Row : Addr
  C_Num : Addr
  row : ErrC K mg "BadRow" "BadRow.__init__" C_Row ((clsS 5 0)) ["self", "value"]
  num : ErrC K mg "BadNumber" "BadNumber.__init__" C_Num ((clsS 2 0)) ["self", "what", "value"]
  d_check_rows : DefOk K mg "check_rows" (topS 18) ["program", "rows"]
  d_is_inputs : DefOk K mg "is_inputs" (topS 17) ["program", "value"]
  d_check_from_0 : DefOk K mg "check_from_0" (topS 10) ["what", "value"]
  d_counts : DefOk K mg "counts" (topS 31) ["program", "rows", "turns"]
/-- an own error that is made -/
structure MkX (P : Program) (w : World) (K : PySem.W.Frag) (mg : Str → Option Value) (base : Heap) (k : Nat) (x : Str) (C : Addr) (sp : Sp) : Prop where
  ex : ∃ (f : Addr) (fd : FuncData) (ps : List Str), mg x = some (.ref C) ∧ OexC K C ∧ PySem.W.findIn K (.ref C) "__init__" = some (some (.ref f)) ∧ PySem.W.typeIn K (.ref f) = some (.type "function") ∧ FnOk P w K mg base C8.CX0 k f fd ps sp ∧ Binds K fd ps []
section
variable {X : Cx} {e : Expr} {es : List Expr} {ta : TA} {x : Str} {p pos : Pos} {C : Addr} {k j : Nat} {sp : Sp}
theorem pe_pei {m : Str} {p1 p2 : Pos} {pl : Sem Bool} (ex : x = "PointError") (em : m = "__init__") (hP : PeOk X.K X.mg C) (hg : Gl X x) (ha : PA X (e :: es) ta)
    (hc : eval (.Call (.Attribute (.Name x p1) m p2) (e :: es) [] pos) X.env = (do
      let ov ← eval (.Name x p1) X.env
      standAt p2.atName
      let (f, first) ← holding [ov] (getMethod ov m pl)
      callWith pos f first (backTo pos (starEach (e :: es) X.env)) (backToKw pos (keywordEach [] X.env))) := by rfl)
    (he : starEach (e :: es) X.env = (false, eval e X.env) :: starEach es X.env := by rfl) (hpl : (backTo pos (starEach es X.env)).any (·.1) = false := by rfl) :
    PE X (.Call (.Attribute (.Name x p1) m p2) (e :: es) [] pos) (tVeI X.K ta) := by
  subst ex
  subst em
  exact pe_peinit hP hg ha hc he hpl
theorem pm_x (m : MkX X.prog X.w X.K X.mg X.base k x C sp) (hr : Room j X.A) (hk : k + 1 ≤ j) (hg : Gl X x) (ha : PA X (e :: es) ta)
    (hdb : (x == ("__debug__" : Str)) = false := by decide) (he : starEach (e :: es) X.env = (false, eval e X.env) :: starEach es X.env := by rfl) (hpl : (backTo pos (starEach es X.env)).any (·.1) = false := by rfl) :
    PMk X (.Call (.Name x p) (e :: es) [] pos) (tMkO C sp [] ta) := by
  obtain ⟨f, fd, ps, hm, T, iC, tI, F, b⟩ := m.ex
  exact pmk_oex T iC tI F (hr.mono hk) b .nil C8.pass0 hg hm ha hdb he hpl
end
/-- self.value = v -/
def spRowI (C : Addr) : Sp := fun vs H Q _ => ∃ (a : Addr) (v : V), vs = [.ref a, v] ∧ H a = some (exo a C none) ∧
  ∀ d, H d = none → d ≠ a → Q .non (upd (upd H d (exd d [("value", v)])) a (exo a C (some d)))
def spNumI (C : Addr) : Sp := fun vs H Q _ => ∃ (a : Addr) (w v : V), vs = [.ref a, w, v] ∧ H a = some (exo a C none) ∧
  ∀ d H2, H d = none → d ≠ a → (∀ b, b ≠ a → b ≠ d → H2 b = H b) → H2 a = some (exo a C (some d)) → H2 d = some (exd d [("value", v), ("what", w)]) → Q .non H2
theorem mko_row {C : Addr} {v : V} {H1 : Hp} {Q : XK} (h : ∀ d Hf, H1 d = none → Kp [] H1 Hf → Hf d = some (.xd [("value", v)]) → Q (.ref C) (some d) Hf) :
    [v].length ≤ 1000 ∧ ∀ a, H1 a = none → spRowI C (.ref a :: ([v] ++ [])) (upd H1 a (exo a C none))
      (fun v H2 => v = .non ∧ ∃ (d : Addr) (fs : List (Str × V)), H2 a = some (exo a C (some d)) ∧ H2 d = some (exd d fs) ∧ H1 d = none ∧ Q (.ref C) (some d) (upd (del H2 a) d (.xd fs))) (fun _ _ _ => False) := by
  refine ⟨by show 1 ≤ 1000; decide, fun a ha => ⟨a, v, rfl, upd_same, fun d hd hne => ⟨rfl, d, _, upd_same, by rw [upd_ne hne, upd_same], by rw [upd_ne hne] at hd; exact hd, ?_⟩⟩⟩
  rw [upd_ne hne] at hd
  refine h d _ hd (fun b o _ hb => ?_) upd_same
  rw [upd_ne (ne_of_none hb hd), del_ne (ne_of_none hb ha), upd_ne (ne_of_none hb ha), upd_ne (ne_of_none hb hd), upd_ne (ne_of_none hb ha)]
  exact hb
theorem mko_num {C : Addr} {w v : V} {H1 : Hp} {Q : XK} (h : ∀ d Hf, H1 d = none → Kp [] H1 Hf → Hf d = some (.xd [("value", v), ("what", w)]) → Q (.ref C) (some d) Hf) :
    [w, v].length ≤ 1000 ∧ ∀ a, H1 a = none → spNumI C (.ref a :: ([w, v] ++ [])) (upd H1 a (exo a C none))
      (fun v H2 => v = .non ∧ ∃ (d : Addr) (fs : List (Str × V)), H2 a = some (exo a C (some d)) ∧ H2 d = some (exd d fs) ∧ H1 d = none ∧ Q (.ref C) (some d) (upd (del H2 a) d (.xd fs))) (fun _ _ _ => False) := by
  refine ⟨by show 2 ≤ 1000; decide, fun a ha => ⟨a, w, v, rfl, upd_same, fun d H2 hd hne hk h2a h2d => ⟨rfl, d, _, h2a, h2d, by rw [upd_ne hne] at hd; exact hd, ?_⟩⟩⟩
  rw [upd_ne hne] at hd
  refine h d _ hd (fun b o _ hb => ?_) upd_same
  rw [upd_ne (ne_of_none hb hd), del_ne (ne_of_none hb ha), hk b (ne_of_none hb ha) (ne_of_none hb hd), upd_ne (ne_of_none hb ha)]
  exact hb
theorem sc_rowi : FnScope ["self", "value"] ["self", "value"] (C8.fnScope (clsS 5 0)) := C8.fnScope_by (by decide +kernel)
theorem sc_numi : FnScope ["self", "what", "value"] ["self", "what", "value"] (C8.fnScope (clsS 2 0)) := C8.fnScope_by (by decide +kernel)
section
variable {P : Program} {w : World} {K : PySem.W.Frag} {mg : Str → Option Value} {base : Heap}
theorem mkxD {x qual : Str} {C : Addr} {st : Stmt} {N ps : List Str} {k : Nat} {sp : Sp} (D : ErrC K mg x qual C st ps) (S : FnScope N ps (C8.fnScope st)) (len : ∀ vs H Q E, sp vs H Q E → vs.length = ps.length)
    (hbody : ∀ (f : Addr) (cdv : Value) (A : Around) (outer : List Env) (s : Shared) (H : Hp) (vs : List V) (Q : VK) (E : XK), Room k (A.deeper (envOfC qual (C8.fnScope st) s.heap.objs.size f cdv)) → sp vs H Q E →
      ∃ t, PSs (cxOf C8.CX0 P w K mg base N qual (C8.fnScope st) f cdv A outer s H E).nox (C8.fnBody st) t ∧ t { nx := fun _ H' => Q .non H', rt := Q } (start N vs) H) : MkX P w K mg base (k + 1) x C sp := by
  obtain ⟨f, fd, h1, h2, F, b⟩ := D.ex
  exact ⟨f, fd, ps, D.gl, D.ox, h1, h2, C8.fn0 F S len (hbody f), b⟩
theorem rowi_ok (Ex : Txx K mg) : MkX P w K mg base 1 "BadRow" Ex.C_Row (spRowI Ex.C_Row) := by
  have nd := sc_rowi.nd
  refine mkxD Ex.row sc_rowi (fun vs H Q E h => ?_) (fun f cdv A outer s0 H vs Q E hr h => ?_)
  · obtain ⟨a, v, rfl, _⟩ := h
    rfl
  obtain ⟨a, v, rfl, ha, q⟩ := h
  have hu := hu_of hr
  refine ⟨_, (pss_cons (ps_expr (pe_pei (x := "PointError") (m := "__init__") rfl rfl Ex.pe rfl (pa_cons (pv 0) (pa_cons pe_str pa_nil))))
  (pss_one (ps_ost (pv 0) (pv 1)))), ?_⟩
  refine ⟨_, rfl, a, Ex.C_Row, _, rfl, by show 1 ≤ 1000; decide, Ex.row.ox, ha, ?_⟩
  refine ⟨_, rfl, _, rfl, a, Ex.C_Row, rfl, Ex.row.ox, Ex.row.no_value, .inl ⟨ha, fun dx h1 h2 => ?_⟩⟩
  exact q dx h1 h2
theorem numi_ok (Ex : Txx K mg) : MkX P w K mg base 1 "BadNumber" Ex.C_Num (spNumI Ex.C_Num) := by
  have nd := sc_numi.nd
  refine mkxD Ex.num sc_numi (fun vs H Q E h => ?_) (fun f cdv A outer s0 H vs Q E hr h => ?_)
  · obtain ⟨a, w, v, rfl, _⟩ := h
    rfl
  obtain ⟨a, w, v, rfl, ha, q⟩ := h
  have hu := hu_of hr
  refine ⟨_, (pss_cons (ps_expr (pe_pei (x := "PointError") (m := "__init__") rfl rfl Ex.pe rfl (pa_cons (pv 0) (pa_cons pe_str pa_nil))))
  (pss_cons (ps_ost (pv 0) (pv 1))
  (pss_one (ps_ost (pv 0) (pv 2))))), ?_⟩
  refine ⟨_, rfl, a, Ex.C_Num, _, rfl, by show 1 ≤ 1000; decide, Ex.num.ox, ha, ?_⟩
  refine ⟨_, rfl, _, rfl, a, Ex.C_Num, rfl, Ex.num.ox, Ex.num.no_what, .inl ⟨ha, fun dx h1 h2 => ?_⟩⟩
  refine ⟨_, rfl, _, rfl, a, Ex.C_Num, rfl, Ex.num.ox, Ex.num.no_value, .inr ⟨dx, _, upd_same, by rw [upd_ne h2, upd_same], by show 1 ≤ 900; decide, ?_⟩⟩
  refine q dx _ h1 h2 (fun b hb hd => ?_) ?_ upd_same
  · rw [upd_ne hd, upd_ne hb, upd_ne hd]
  · rw [upd_ne h2.symm, upd_same]
end
end Sv
end
section
set_option Elab.async false
set_option linter.all false
set_option autoImplicit false
set_option maxRecDepth 100000
/-! W26: is_inputs, check_from_0, check_rows. -/
namespace Sv
open PySem PySem.Spec PyProof.Rows L2
open C8 (pe_c pe_mt pe_mt0 pe_mk pe_gc)
/-- a def that may raise, called by its name -/
structure CalX (P : Program) (w : World) (K : PySem.W.Frag) (mg : Str → Option Value) (base : Heap) (k : Nat) (x : Str) (sp : Sp) : Prop where
  ex : ∃ (f : Addr) (fd : FuncData) (ps : List Str), FnOk P w K mg base (L2.CX P w) k f fd ps sp ∧ mg x = some (.ref f) ∧ PySem.W.keepIn K (.ref f) = true ∧ Binds K fd ps []
section
variable {X : Cx} {k j : Nat} {x : Str} {sp : Sp} {p pos : Pos} {e : Expr} {es : List Expr} {t : TA} {E : XK}
theorem pe_cx (c : CalX X.prog X.w X.K X.mg X.base k x sp) (hr : Room j X.A) (hk : k ≤ j) (hg : Gl X x) (hx : Passes (L2.CX X.prog X.w) X E) (ha : PA X (e :: es) t)
    (hdb : (x == ("__debug__" : Str)) = false := by decide) (he : starEach (e :: es) X.env = (false, eval e X.env) :: starEach es X.env := by rfl) (hpl : (backTo pos (starEach es X.env)).any (·.1) = false := by rfl) :
    PE X (.Call (.Name x p) (e :: es) [] pos) (tCall sp [] E t) := by
  obtain ⟨f, fd, ps, F, hm, kp, b⟩ := c.ex
  exact pe_call F (hr.mono hk) hg hm kp b .nil hx ha hdb he hpl
end
section
variable {P : Program} {w : World} {K : PySem.W.Frag} {mg : Str → Option Value} {base : Heap}
theorem calXD {x : Str} {st : Stmt} {N ps : List Str} {k : Nat} {sp : Sp} (D : DefOk K mg x st ps) (S : FnScope N ps (C8.fnScope st)) (len : ∀ vs H Q E, sp vs H Q E → vs.length = ps.length)
    (hbody : ∀ (f : Addr) (cdv : Value) (A : Around) (outer : List Env) (s : Shared) (H : Hp) (vs : List V) (Q : VK) (E : XK), Room k (A.deeper (envOfC x (C8.fnScope st) s.heap.objs.size f cdv)) → sp vs H Q E →
      ∃ t, PSs (cxOf (L2.CX P w) P w K mg base N x (C8.fnScope st) f cdv A outer s H E) (C8.fnBody st) t ∧ t { nx := fun _ H' => Q .non H', rt := Q } (start N vs) H) : CalX P w K mg base (k + 1) x sp := by
  obtain ⟨f, fd, F, b⟩ := D.ex
  obtain ⟨oc, od, dV, kV, doc, pm, an, cdv, ct, osl, rfl, lk, hcd⟩ := F.fn.ex
  exact ⟨f, _, ps, fn_of lk hcd S len fun A outer s H vs Q E hr hsp => hbody f cdv A outer s H vs Q E hr hsp, F.mgf, F.kp, b⟩
end
/-- a number that is no truth value -/
def isI (d : PyData) : Bool := decide (tyD d = "int")
def okIn (k : Nat) : PyData → Bool
  | .list ds => decide (ds.length = k) && ds.all isI
  | .tuple ds => decide (ds.length = k) && ds.all isI
  | _ => false
def spIsInputs (K : PySem.W.Frag) (CP : Addr) : Sp := fun vs H Q _ => ∃ (pr : Addr) (v : V) (N : List Str) (k : Nat) (b : Blk) (d : PyData), vs = [.ref pr, v] ∧ ProgAt K CP H pr N k b ∧ k ≤ N.length ∧ N.length ≤ 1000 ∧ Dp K H v d ∧ ∀ H', Kp [] H H' → Q (.bl (okIn k d)) H'
theorem sc_isinp : FnScope ["program", "value", "item"] ["program", "value"] (C8.fnScope (topS 17)) := C8.fnScope_by (by decide +kernel)
section
variable {P : Program} {w : World} {K : PySem.W.Frag} {mg : Str → Option Value} {base : Heap}
theorem not_any_not (ds : List PyData) : (!((ds.map fun d => !isI d).any id)) = ds.all isI := by
  induction ds with
  | nil => rfl
  | cons d ds ih => simp only [List.map_cons, List.any_cons, List.all_cons, id] at *; rw [← ih]; cases isI d <;> simp
theorem isinp_ok (T : Txt K mg) (Te : Txe K mg T) : C8.Cal P w K mg base 3 "is_inputs" (spIsInputs K T.C_Program) [] := by
  have nd := sc_isinp.nd
  have c_is_row := isrow_ok (P := P) (w := w) (base := base) T Te
  have c_is_int := isint_ok (P := P) (w := w) (base := base) T
  refine calD T.d_is_inputs sc_isinp (fun vs H Q E h => ?_) (fun f cdv A outer s0 H vs Q E hr h => ?_)
  · obtain ⟨pr, v, N, k, b, d, rfl, _⟩ := h
    rfl
  obtain ⟨pr, v, N, k, b, d, rfl, hP, hk, hN, hd, q⟩ := h
  have hu := hu_of hr
  refine ⟨_, (pss_cons (ps_if (PW.pt (pw_or (pt_not (pt_val (pe_c c_is_row hr (by omega) rfl (pa_cons (pv 1) pa_nil)))) (pw_or1 (pt_cmpR op_ne (pe_callB (id := "len") call_len_seq (by rfl) T.z_len PySem.boot_len (pa_cons (pv 1) pa_nil)) (pe_callB (id := "len") call_len_seq (by rfl) T.z_len PySem.boot_len (pa_cons (pe_fld (pv 0) rfl) pa_nil)) (nomark _))))) (pss_one (ps_ret pe_bl)) pss_nil)
  (pss_one (ps_ret (pe_not (pe_callB (id := "any") (cr_any rfl) (by rfl) T.z_any (by decide +kernel) (pa_cons (pe_lc (own := [("item", 2)]) rfl nd (pi_seq (pv 1)) (blkOk_by (N := ["program", "value", "item"]) (sc := C8.fnScope (topS 17)) (by decide +kernel)) (fun _ _ _ _ _ => (pg_name (i := 2) nd rfl (Or.inl rfl))) (fun _ _ _ _ _ => pts_nil) (fun _ _ _ _ _ => (pe_not (pe_c c_is_int hr (by omega) rfl (pa_cons (pv 2) pa_nil))))) pa_nil)))))), ?_⟩
  have tl : ((N.take k).map V.str).length = k := by rw [List.length_map, List.length_take]; omega
  cases d with
  | none => exact ⟨_, rfl, _, rfl, .inl ⟨_, dp_ty hd, fun H1 k1 => ⟨_, rfl, iteT (iteT (q H1 k1))⟩⟩⟩
  | bool b => exact ⟨_, rfl, _, rfl, .inl ⟨_, dp_ty hd, fun H1 k1 => ⟨_, rfl, iteT (iteT (q H1 k1))⟩⟩⟩
  | int i => exact ⟨_, rfl, _, rfl, .inl ⟨_, dp_ty hd, fun H1 k1 => ⟨_, rfl, iteT (iteT (q H1 k1))⟩⟩⟩
  | str x => exact ⟨_, rfl, _, rfl, .inl ⟨_, dp_ty hd, fun H1 k1 => ⟨_, rfl, iteT (iteT (q H1 k1))⟩⟩⟩
  | dict _ => cases hd
  | list ds =>
    obtain ⟨a, xs, rfl, hq, hA⟩ := dp_lst hd
    have xl := dpA_len hA
    refine ⟨_, rfl, _, rfl, .inl ⟨_, dp_ty hd, fun H1 k1 => ⟨_, rfl, iteF ?_⟩⟩⟩
    obtain ⟨dx, ti, vb, hp1, hp2, hp3⟩ := (hP.kp0 k1).ex
    refine ⟨_, rfl, a, xs, rfl, .inl (k1.sqL FreeS.nil hq), ?_⟩
    refine ⟨_, rfl, pr, T.C_Program, dx, _, _, rfl, hp1, T.cl_Program, T.n_Program_inputs, rfl, ti, _, rfl, .inr hp2, ?_⟩
    refine ⟨rfl, _, rfl, ?_⟩
    refine ite2 (fun c => ?_) (fun c => ?_)
    · have c' : ¬ V.int (xs.length : Int) = V.int (((N.take k).map V.str).length : Int) := by simpa using c
      have e : okIn k (.list ds) = false := by
        rw [okIn, decide_eq_false (fun z => c' (by rw [tl, xl, z])), Bool.false_and]
      rw [e] at q
      exact q H1 k1
    · have c' : V.int (xs.length : Int) = V.int (((N.take k).map V.str).length : Int) := by simpa using c
      have c2 : ds.length = k := by
        rw [tl, xl] at c'
        injection c' with c'
        omega
      have e : okIn k (.list ds) = ds.all isI := by rw [okIn, decide_eq_true c2, Bool.true_and]
      rw [e, ← not_any_not] at q
      refine ⟨_, rfl, a, rfl, .inl ⟨⟨xs, k1.sqL FreeS.nil hq⟩, fun D hD => ?_⟩⟩
      refine lc_it (walk_list (xs := xs)) (fun i H' => Kp [] H H' ∧ H' D = some (.lst ((ds.take i).map fun d => V.bl (!isI d)))) ⟨k1.trans (Kp.new hD), upd_same⟩ (fun i H' _ ⟨kk, _⟩ => kk.sqL FreeS.nil hq) ?_ ?_
      · rintro i x H2 H3 hi ⟨k2, hD2⟩ ⟨rfl, hx⟩
        obtain ⟨di, hdi, hdx⟩ := dpA_at' (k2.dpA FreeS.nil hA) hx
        refine ⟨rfl, ?_⟩
        refine ⟨_, rfl, x, _, rfl, dp_ty hdx, _, rfl, ?_⟩
        refine ⟨_, hD2, sm' (by rw [List.length_map, List.length_take]; omega), fun g o hg1 hg2 => ?_, ?_⟩
        · rw [upd_ne (ne_of_none hg2 (k1.free hD))]
          exact k2 _ _ hg1 hg2
        · rw [upd_same, List.take_add_one, hdi, List.map_append]
          rfl
      · rintro H2 ⟨k2, hD2⟩
        rw [List.take_of_length_le (by omega)] at hD2
        refine ⟨D, ds.map fun d => !isI d, rfl, SqL.of (by rw [List.map_map]; exact hD2), ?_⟩
        exact ⟨_, rfl, q H2 k2⟩
  | tuple ds =>
    obtain ⟨a, xs, rfl, hq, hA⟩ := dp_tup hd
    have xl := dpA_len hA
    refine ⟨_, rfl, _, rfl, .inl ⟨_, dp_ty hd, fun H1 k1 => ⟨_, rfl, iteF ?_⟩⟩⟩
    obtain ⟨dx, ti, vb, hp1, hp2, hp3⟩ := (hP.kp0 k1).ex
    refine ⟨_, rfl, a, xs, rfl, .inr (k1.sqT FreeS.nil.t hq), ?_⟩
    refine ⟨_, rfl, pr, T.C_Program, dx, _, _, rfl, hp1, T.cl_Program, T.n_Program_inputs, rfl, ti, _, rfl, .inr hp2, ?_⟩
    refine ⟨rfl, _, rfl, ?_⟩
    refine ite2 (fun c => ?_) (fun c => ?_)
    · have c' : ¬ V.int (xs.length : Int) = V.int (((N.take k).map V.str).length : Int) := by simpa using c
      have e : okIn k (.tuple ds) = false := by
        rw [okIn, decide_eq_false (fun z => c' (by rw [tl, xl, z])), Bool.false_and]
      rw [e] at q
      exact q H1 k1
    · have c' : V.int (xs.length : Int) = V.int (((N.take k).map V.str).length : Int) := by simpa using c
      have c2 : ds.length = k := by
        rw [tl, xl] at c'
        injection c' with c'
        omega
      have e : okIn k (.tuple ds) = ds.all isI := by rw [okIn, decide_eq_true c2, Bool.true_and]
      rw [e, ← not_any_not] at q
      refine ⟨_, rfl, a, rfl, .inr ⟨⟨xs, k1.sqT FreeS.nil.t hq⟩, fun D hD => ?_⟩⟩
      refine lc_it (walk_tup (xs := xs)) (fun i H' => Kp [] H H' ∧ H' D = some (.lst ((ds.take i).map fun d => V.bl (!isI d)))) ⟨k1.trans (Kp.new hD), upd_same⟩ (fun i H' _ ⟨kk, _⟩ => kk.sqT FreeS.nil.t hq) ?_ ?_
      · rintro i x H2 H3 hi ⟨k2, hD2⟩ ⟨rfl, hx⟩
        obtain ⟨di, hdi, hdx⟩ := dpA_at' (k2.dpA FreeS.nil hA) hx
        refine ⟨rfl, ?_⟩
        refine ⟨_, rfl, x, _, rfl, dp_ty hdx, _, rfl, ?_⟩
        refine ⟨_, hD2, sm' (by rw [List.length_map, List.length_take]; omega), fun g o hg1 hg2 => ?_, ?_⟩
        · rw [upd_ne (ne_of_none hg2 (k1.free hD))]
          exact k2 _ _ hg1 hg2
        · rw [upd_same, List.take_add_one, hdi, List.map_append]
          rfl
      · rintro H2 ⟨k2, hD2⟩
        rw [List.take_of_length_le (by omega)] at hD2
        refine ⟨D, ds.map fun d => !isI d, rfl, SqL.of (by rw [List.map_map]; exact hD2), ?_⟩
        exact ⟨_, rfl, q H2 k2⟩
end
end Sv
end
section
set_option Elab.async false
set_option linter.all false
set_option autoImplicit false
set_option maxRecDepth 100000
/-! W27: check_from_0, check_rows. -/
namespace Sv
open PySem PySem.Spec PyProof.Rows L2
open C8 (pe_c pe_mt pe_mt0 pe_mk pe_gc)
def okRows (k : Nat) : PyData → Bool
  | .list ds => ds.all (okIn k)
  | .tuple ds => ds.all (okIn k)
  | _ => false
def dlen : PyData → Nat
  | .list ds => ds.length
  | .tuple ds => ds.length
  | _ => 0
def spCheckRows (K : PySem.W.Frag) (CP C : Addr) : Sp := fun vs H Q E => ∃ (pr : Addr) (v : V) (N : List Str) (k : Nat) (b : Blk) (d : PyData), vs = [.ref pr, v] ∧ ProgAt K CP H pr N k b ∧ k ≤ N.length ∧ N.length ≤ 1000 ∧ Dp K H v d ∧ dlen d ≤ 1000 ∧
  (okRows k d = true → ∀ H', Kp [] H H' → Q .non H') ∧ (okRows k d = false → ∀ dx H', H dx = none → Kp [] H H' → H' dx = some (.xd [("value", v)]) → E (.ref C) (some dx) H')
def ok0 : PyData → Bool
  | .int i => decide (0 ≤ i)
  | _ => false
def spCheck0 (K : PySem.W.Frag) (C : Addr) : Sp := fun vs H Q E => ∃ (w v : V) (d : PyData), vs = [w, v] ∧ Dp K H v d ∧
  (ok0 d = true → Q .non H) ∧ (ok0 d = false → ∀ dx H', H dx = none → Kp [] H H' → H' dx = some (.xd [("value", v), ("what", w)]) → E (.ref C) (some dx) H')
theorem sc_chk0 : FnScope ["what", "value"] ["what", "value"] (C8.fnScope (topS 10)) := C8.fnScope_by (by decide +kernel)
theorem sc_chkr : FnScope ["program", "rows", "row"] ["program", "rows"] (C8.fnScope (topS 18)) := C8.fnScope_by (by decide +kernel)
theorem any_not_ok (k : Nat) (ds : List PyData) : ((ds.map fun d => !okIn k d).any id) = !(ds.all (okIn k)) := by
  induction ds with
  | nil => rfl
  | cons d ds ih => simp only [List.map_cons, List.any_cons, List.all_cons, id] at *; rw [ih]; cases okIn k d <;> simp
section
variable {P : Program} {w : World} {K : PySem.W.Frag} {mg : Str → Option Value} {base : Heap}
theorem chk0_ok (T : Txt K mg) (Ex : Txx K mg) : CalX P w K mg base 3 "check_from_0" (spCheck0 K Ex.C_Num) := by
  have nd := sc_chk0.nd
  have c_is_int := isint_ok (P := P) (w := w) (base := base) T
  have x_BadNumber := numi_ok (P := P) (w := w) (base := base) Ex
  refine calXD Ex.d_check_from_0 sc_chk0 (fun vs H Q E h => ?_) (fun f cdv A outer s0 H vs Q E hr h => ?_)
  · obtain ⟨w, v, d, rfl, _⟩ := h
    rfl
  obtain ⟨w, v, d, rfl, hd, q, e⟩ := h
  have hu := hu_of hr
  refine ⟨_, (pss_one (ps_if (PW.pt (pw_or (pt_not (pt_val (pe_c c_is_int hr (by omega) rfl (pa_cons (pv 1) pa_nil)))) (pw_or1 (pt_cmpR op_lt (pv 1) pe_int (nomark _))))) (pss_one (ps_raise rfl (takes_of rfl rfl rfl rfl) (pm_x x_BadNumber hr (by omega) rfl (pa_cons (pv 0) (pa_cons (pv 1) pa_nil))))) pss_nil)), ?_⟩
  refine ⟨_, rfl, v, _, rfl, dp_ty hd, _, rfl, ?_⟩
  cases d with
  | none => exact iteT (iteT ⟨_, rfl, _, rfl, mko_num fun dx Hf h1 h2 h3 => e rfl dx Hf h1 h2 h3⟩)
  | bool b => exact iteT (iteT ⟨_, rfl, _, rfl, mko_num fun dx Hf h1 h2 h3 => e rfl dx Hf h1 h2 h3⟩)
  | str b => exact iteT (iteT ⟨_, rfl, _, rfl, mko_num fun dx Hf h1 h2 h3 => e rfl dx Hf h1 h2 h3⟩)
  | list b => exact iteT (iteT ⟨_, rfl, _, rfl, mko_num fun dx Hf h1 h2 h3 => e rfl dx Hf h1 h2 h3⟩)
  | tuple b => exact iteT (iteT ⟨_, rfl, _, rfl, mko_num fun dx Hf h1 h2 h3 => e rfl dx Hf h1 h2 h3⟩)
  | dict b => cases hd
  | int i =>
    cases dp_int hd
    refine iteF ⟨_, rfl, _, _, rfl, rfl, _, rfl, ?_⟩
    refine ite2 (fun c => ?_) (fun c => ?_)
    · refine ⟨_, rfl, _, rfl, mko_num fun dx Hf h1 h2 h3 => e ?_ dx Hf h1 h2 h3⟩
      have := of_decide_eq_true c
      exact decide_eq_false (by omega)
    · refine q (decide_eq_true ?_)
      by_cases z : i < 0
      · exact absurd (decide_eq_true z) c
      · omega
theorem chkr_ok (T : Txt K mg) (Te : Txe K mg T) (Ex : Txx K mg) : CalX P w K mg base 5 "check_rows" (spCheckRows K T.C_Program Ex.C_Row) := by
  have nd := sc_chkr.nd
  have c_is_row := isrow_ok (P := P) (w := w) (base := base) T Te
  have c_is_inputs := isinp_ok (P := P) (w := w) (base := base) T Te
  have x_BadRow := rowi_ok (P := P) (w := w) (base := base) Ex
  refine calXD Ex.d_check_rows sc_chkr (fun vs H Q E h => ?_) (fun f cdv A outer s0 H vs Q E hr h => ?_)
  · obtain ⟨pr, v, N, k, b, d, rfl, _⟩ := h
    rfl
  obtain ⟨pr, v, N, k, b, d, rfl, hP, hk, hN, hd, hl, q, e⟩ := h
  have hu := hu_of hr
  refine ⟨_, (pss_one (ps_if (PW.pt (pw_or (pt_not (pt_val (pe_c c_is_row hr (by omega) rfl (pa_cons (pv 1) pa_nil)))) (pw_or1 (pt_val (pe_callB (id := "any") (cr_any rfl) (by rfl) T.z_any (by decide +kernel) (pa_cons (pe_lc (own := [("row", 2)]) rfl nd (pi_seq (pv 1)) (blkOk_by (N := ["program", "rows", "row"]) (sc := C8.fnScope (topS 18)) (by decide +kernel)) (fun _ _ _ _ _ => (pg_name (i := 2) nd rfl (Or.inl rfl))) (fun _ _ _ _ _ => pts_nil) (fun _ _ _ _ _ => (pe_not (pe_c c_is_inputs hr (by omega) rfl (pa_cons (pv 0) (pa_cons (pv 2) pa_nil)))))) pa_nil)))))) (pss_one (ps_raise rfl (takes_of rfl rfl rfl rfl) (pm_x x_BadRow hr (by omega) rfl (pa_cons (pv 1) pa_nil)))) pss_nil)), ?_⟩
  cases d with
  | none => exact ⟨_, rfl, _, rfl, .inl ⟨_, dp_ty hd, fun H1 k1 => ⟨_, rfl, iteT (iteT ⟨_, rfl, mko_row fun dx Hf h1 h2 h3 => e rfl dx Hf (k1.free h1) (k1.trans h2) h3⟩)⟩⟩⟩
  | bool b => exact ⟨_, rfl, _, rfl, .inl ⟨_, dp_ty hd, fun H1 k1 => ⟨_, rfl, iteT (iteT ⟨_, rfl, mko_row fun dx Hf h1 h2 h3 => e rfl dx Hf (k1.free h1) (k1.trans h2) h3⟩)⟩⟩⟩
  | int i => exact ⟨_, rfl, _, rfl, .inl ⟨_, dp_ty hd, fun H1 k1 => ⟨_, rfl, iteT (iteT ⟨_, rfl, mko_row fun dx Hf h1 h2 h3 => e rfl dx Hf (k1.free h1) (k1.trans h2) h3⟩)⟩⟩⟩
  | str x => exact ⟨_, rfl, _, rfl, .inl ⟨_, dp_ty hd, fun H1 k1 => ⟨_, rfl, iteT (iteT ⟨_, rfl, mko_row fun dx Hf h1 h2 h3 => e rfl dx Hf (k1.free h1) (k1.trans h2) h3⟩)⟩⟩⟩
  | dict _ => cases hd
  | list ds =>
    obtain ⟨a, xs, rfl, hq, hA⟩ := dp_lst hd
    have xl := dpA_len hA
    change ds.length ≤ 1000 at hl
    refine ⟨_, rfl, _, rfl, .inl ⟨_, dp_ty hd, fun H1 k1 => ⟨_, rfl, iteF ?_⟩⟩⟩
    refine ⟨_, rfl, a, rfl, .inl ⟨⟨xs, k1.sqL FreeS.nil hq⟩, fun D hD => ?_⟩⟩
    refine lc_it (walk_list (xs := xs)) (fun i H' => Kp [] H H' ∧ H' D = some (.lst ((ds.take i).map fun d => V.bl (!okIn k d)))) ⟨k1.trans (Kp.new hD), upd_same⟩ (fun i H' _ ⟨kk, _⟩ => kk.sqL FreeS.nil hq) ?_ ?_
    · rintro i x H2 H3 hi ⟨k2, hD2⟩ ⟨rfl, hx⟩
      obtain ⟨di, hdi, hdx⟩ := dpA_at' (k2.dpA FreeS.nil hA) hx
      refine ⟨rfl, ?_⟩
      refine ⟨_, rfl, _, rfl, pr, x, N, k, b, di, rfl, hP.kp0 k2, hk, hN, hdx, fun H4 k4 => ⟨_, rfl, ?_⟩⟩
      have D4 := k4.at hD2 (by simp)
      refine ⟨_, D4, sm' (by rw [List.length_map, List.length_take]; omega), fun g o hg1 hg2 => ?_, ?_⟩
      · rw [upd_ne (ne_of_none hg2 (k1.free hD))]
        exact (k2.trans k4) _ _ hg1 hg2
      · rw [upd_same, List.take_add_one, hdi, List.map_append]
        rfl
    · rintro H2 ⟨k2, hD2⟩
      rw [List.take_of_length_le (by omega)] at hD2
      refine ⟨D, ds.map fun d => !okIn k d, rfl, SqL.of (by rw [List.map_map]; exact hD2), ?_⟩
      rw [any_not_ok]
      refine ⟨_, rfl, ?_⟩
      cases hok : ds.all (okIn k) with
      | true => exact iteF (q hok H2 k2)
      | false => exact iteT ⟨_, rfl, mko_row fun dx Hf h1 h2 h3 => e hok dx Hf (k2.free h1) (k2.trans h2) h3⟩
  | tuple ds =>
    obtain ⟨a, xs, rfl, hq, hA⟩ := dp_tup hd
    have xl := dpA_len hA
    change ds.length ≤ 1000 at hl
    refine ⟨_, rfl, _, rfl, .inl ⟨_, dp_ty hd, fun H1 k1 => ⟨_, rfl, iteF ?_⟩⟩⟩
    refine ⟨_, rfl, a, rfl, .inr ⟨⟨xs, k1.sqT FreeS.nil.t hq⟩, fun D hD => ?_⟩⟩
    refine lc_it (walk_tup (xs := xs)) (fun i H' => Kp [] H H' ∧ H' D = some (.lst ((ds.take i).map fun d => V.bl (!okIn k d)))) ⟨k1.trans (Kp.new hD), upd_same⟩ (fun i H' _ ⟨kk, _⟩ => kk.sqT FreeS.nil.t hq) ?_ ?_
    · rintro i x H2 H3 hi ⟨k2, hD2⟩ ⟨rfl, hx⟩
      obtain ⟨di, hdi, hdx⟩ := dpA_at' (k2.dpA FreeS.nil hA) hx
      refine ⟨rfl, ?_⟩
      refine ⟨_, rfl, _, rfl, pr, x, N, k, b, di, rfl, hP.kp0 k2, hk, hN, hdx, fun H4 k4 => ⟨_, rfl, ?_⟩⟩
      have D4 := k4.at hD2 (by simp)
      refine ⟨_, D4, sm' (by rw [List.length_map, List.length_take]; omega), fun g o hg1 hg2 => ?_, ?_⟩
      · rw [upd_ne (ne_of_none hg2 (k1.free hD))]
        exact (k2.trans k4) _ _ hg1 hg2
      · rw [upd_same, List.take_add_one, hdi, List.map_append]
        rfl
    · rintro H2 ⟨k2, hD2⟩
      rw [List.take_of_length_le (by omega)] at hD2
      refine ⟨D, ds.map fun d => !okIn k d, rfl, SqL.of (by rw [List.map_map]; exact hD2), ?_⟩
      rw [any_not_ok]
      refine ⟨_, rfl, ?_⟩
      cases hok : ds.all (okIn k) with
      | true => exact iteF (q hok H2 k2)
      | false => exact iteT ⟨_, rfl, mko_row fun dx Hf h1 h2 h3 => e hok dx Hf (k2.free h1) (k2.trans h2) h3⟩
end
end Sv
end
section
set_option Elab.async false
set_option linter.all false
set_option autoImplicit false
set_option maxRecDepth 100000
/-! W28: values_at. -/
namespace Sv
open PySem PySem.Spec PyProof.Rows L2
open C8 (pe_c pe_mt pe_mt0 pe_mk pe_gc)
section
variable {J : It} {n : Nat} {G : Hp → Prop} {Y : Nat → Hp → V → Hp → Prop}
theorem dc_it (w : Walk J n G Y) {g : TG} {tt : TT} {tk tv : TE} {vs : List Nat} {σ : L2.St} {H1 : Hp} {D : Addr} {Qd : Hp → Prop} (Pv : Nat → Hp → Prop) (h0 : Pv 0 (upd H1 D (.dK []))) (hG : ∀ i H, i ≤ n → Pv i H → G H)
    (hs : ∀ i x H H', i < n → Pv i H → Y i H x H' → g x (wipe σ vs) H' fun σ2 H2 => wipe σ2 vs = wipe σ vs ∧ tt σ2 H2 fun b H3 =>
      if b = true then tk σ2 H3 fun y H4 => tv σ2 H4 fun z H5 => ∃ kvs k, y = kV k ∧ H5 D = some (.dK kvs) ∧ kvs.length < sizeLine ∧ Pv (i + 1) (upd H5 D (.dK (putK kvs k z))) else Pv (i + 1) H3) (hd : ∀ H, Pv n H → Qd H) :
    ∃ W : Nat → Nat → Hp → Prop, (∃ m, W 0 m (upd H1 D (.dK []))) ∧ ∀ i m H, W i m H →
      (J.stop i H ∧ Qd H) ∨ (J.go i H ∧ ∃ Nx : Hp → Prop, (∀ H', Nx H' → ∃ m', m' < m ∧ W (i + 1) m' H') ∧ ∀ x H', J.yld i H x H' → g x (wipe σ vs) H' fun σ2 H2 => wipe σ2 vs = wipe σ vs ∧ tt σ2 H2 fun b H3 =>
        if b = true then tk σ2 H3 fun y H4 => tv σ2 H4 fun z H5 => ∃ kvs k, y = kV k ∧ H5 D = some (.dK kvs) ∧ kvs.length < sizeLine ∧ Nx (upd H5 D (.dK (putK kvs k z))) else Nx H3) := by
  refine ⟨fun i m H => m = n - i ∧ i ≤ n ∧ Pv i H, ⟨n, by simp, Nat.zero_le _, h0⟩, ?_⟩
  rintro i m H ⟨rfl, hi, p⟩
  have q := hG i H hi p
  by_cases hlt : i < n
  · refine .inr ⟨w.goes i H hlt q, Pv (i + 1), fun H' p' => ⟨n - (i + 1), by omega, rfl, hlt, p'⟩, fun x H' y => hs i x H H' hlt p (w.yields i H x H' hlt q y)⟩
  · have e : i = n := by omega
    subst e
    exact .inl ⟨w.stops H q, hd H p⟩
end
def spValuesAt (K : PySem.W.Frag) : Sp := fun vs H Q _ => ∃ (l : Addr) (prs : En), vs = [.ref l] ∧ PrAt K H l prs ∧ prs.length ≤ 1000 ∧ ∀ (d : Addr) H', H d = none → Kp [] H H' → NowAt H' d (env0 prs) → Q (.ref d) H'
theorem sc_vat : FnScope ["pairs", "name", "number"] ["pairs"] (C8.fnScope (topS 13)) := C8.fnScope_by (by decide +kernel)
section
variable {P : Program} {w : World} {K : PySem.W.Frag} {mg : Str → Option Value} {base : Heap}
theorem vat_ok (T : Txt K mg) : C8.Cal P w K mg base 1 "values_at" (spValuesAt K) [] := by
  have nd := sc_vat.nd
  refine calD T.d_values_at sc_vat (fun vs H Q E h => ?_) (fun f cdv A outer s0 H vs Q E hr h => ?_)
  · obtain ⟨l, prs, rfl, _⟩ := h
    rfl
  obtain ⟨l, prs, rfl, hP, hle, q⟩ := h
  have hu := hu_of hr
  obtain ⟨ps, hl, hps⟩ := hP.ex
  refine ⟨_, (pss_one (ps_ret (pe_dc (own := [("name", 1), ("number", 2)]) rfl nd (pi_seq (pv 0)) (blkOk_by (N := ["pairs", "name", "number"]) (sc := C8.fnScope (topS 13)) (by decide +kernel)) (fun _ _ _ _ _ => (pg_tupK (K := K) (n := 2) rfl rfl (pgs_cons (pg_name (i := 1) nd rfl (Or.inl rfl) (.inr rfl)) (pgs_cons (pg_name (i := 2) nd rfl (Or.inl rfl) (.inr rfl)) pgs_nil)))) (fun _ _ _ _ _ => pts_nil) (fun _ _ _ _ _ => (pv 1)) (fun _ _ _ _ _ => (pv 2))))), ?_⟩
  refine ⟨_, rfl, l, rfl, .inl ⟨⟨_, SqL.of hl⟩, fun D hD => ?_⟩⟩
  refine dc_it (walk_list (xs := ps.map V.ref)) (fun i H' => Kp [] H H' ∧ H' D = some (.dK (kvs (env0 (prs.take i))))) ⟨Kp.new hD, upd_same⟩ (fun i H' _ ⟨kk, _⟩ => SqL.of (kk.at hl (by simp))) ?_ ?_
  · rintro i x H2 H3 hi ⟨k2, hD2⟩ ⟨rfl, hx⟩
    rw [List.getElem?_map] at hx
    obtain ⟨t, ht, rfl⟩ := Option.map_eq_some_iff.mp hx
    obtain ⟨kv, hkv, hT⟩ := LiI.paired_get hps ht
    unfold kvs at hkv
    rw [List.getElem?_map] at hkv
    obtain ⟨pr, hpr, rfl⟩ := Option.map_eq_some_iff.mp hkv
    refine ⟨t, _, rfl, k2.sqT FreeS.nil.t hT, rfl, _, _, rfl, _, _, rfl, rfl, rfl, ?_⟩
    refine ⟨_, rfl, _, rfl, _, Sum.inr pr.1, rfl, hD2, ?_, fun g o hg1 hg2 => ?_, ?_⟩
    · have h1 := foldl_put_len (prs.take i) []
      have h2 : (kvs (env0 (prs.take i))).length ≤ 0 + (prs.take i).length := by unfold kvs env0; rw [List.length_map]; exact h1
      rw [List.length_take] at h2
      exact sm' (by omega)
    · rw [upd_ne (ne_of_none hg2 hD)]
      exact k2 _ _ hg1 hg2
    · have e3 : env0 (prs.take i ++ (some pr).toList) = En.put (env0 (prs.take i)) pr.1 pr.2 := by unfold env0; rw [List.foldl_append]; rfl
      rw [upd_same, List.take_add_one, hpr, e3, ← kvs_put]
  · rintro H2 ⟨k2, hD2⟩
    rw [List.take_of_length_le (by rw [List.length_map, Paired.length hps, kvs, List.length_map]; exact Nat.le_refl _)] at hD2
    exact q D H2 hD k2 hD2
end
end Sv
end
section
set_option Elab.async false
set_option linter.all false
set_option autoImplicit false
set_option maxRecDepth 100000
/-! W29: counts. -/
namespace Sv
open PySem PySem.Spec PyProof.Rows L2
open C8 (pe_c pe_mt pe_mt0 pe_mk pe_gc)
theorem norm_int : ∀ {d : PyData} {i : Int}, norm d = .int i → d = .int i
  | .none, _, h => by rw [norm] at h; cases h
  | .bool _, _, h => by rw [norm] at h; cases h
  | .int _, _, h => by rw [norm] at h; exact h
  | .str _, _, h => by rw [norm] at h; cases h
  | .list _, _, h => by rw [norm] at h; cases h
  | .tuple _, _, h => by rw [norm] at h; cases h
  | .dict _, _, h => by rw [norm] at h; cases h
section
variable {K : PySem.W.Frag} {H : Hp}
theorem ints_of : ∀ {ds : List PyData} {is : List Int} {xs : List V}, ds.map norm = is.map PyData.int → DpAll K H xs ds → xs = is.map V.int
  | [], [], _, _, .nil => rfl
  | [], _ :: _, _, e, _ => by cases e
  | _ :: _, [], _, e, _ => by cases e
  | d :: ds, i :: is, _, e, .cons h r => by
    have e' : norm d :: ds.map norm = .int i :: is.map PyData.int := e
    injection e' with e1 e2
    have := norm_int e1
    subst this
    rw [dp_int h, ints_of e2 r]
    rfl
theorem dp_row {d : PyData} {v : V} {is : List Int} (h : Dp K H v d) (e : norm d = intsD is) : ∃ a, v = .ref a ∧ (SqL K H a (is.map V.int) ∨ SqT K H a (is.map V.int)) := by
  cases d with
  | none => rw [norm] at e; cases e
  | bool _ => rw [norm] at e; cases e
  | int _ => rw [norm] at e; cases e
  | str _ => rw [norm] at e; cases e
  | dict _ => rw [norm] at e; cases e
  | list ds =>
    rw [norm, normA_map] at e
    injection e with e
    obtain ⟨a, xs, rfl, hq, hA⟩ := dp_lst h
    exact ⟨a, rfl, .inl (by rw [← ints_of e hA]; exact hq)⟩
  | tuple ds =>
    rw [norm, normA_map] at e
    injection e with e
    obtain ⟨a, xs, rfl, hq, hA⟩ := dp_tup h
    exact ⟨a, rfl, .inr (by rw [← ints_of e hA]; exact hq)⟩
theorem okIn_len {d : PyData} {k : Nat} {is : List Int} (h : okIn k d = true) (e : norm d = intsD is) : is.length = k := by
  cases d with
  | none => cases h
  | bool _ => cases h
  | int _ => cases h
  | str _ => cases h
  | dict _ => cases h
  | list ds =>
    rw [norm, normA_map] at e
    injection e with e
    rw [okIn, Bool.and_eq_true, decide_eq_true_eq] at h
    have := congrArg List.length e
    rw [List.length_map, List.length_map] at this
    omega
  | tuple ds =>
    rw [norm, normA_map] at e
    injection e with e
    rw [okIn, Bool.and_eq_true, decide_eq_true_eq] at h
    have := congrArg List.length e
    rw [List.length_map, List.length_map] at this
    omega
end
/-- a list or a tuple -/
def SqE (K : PySem.W.Frag) (H : Hp) (a : Addr) (xs : List V) : Prop := SqL K H a xs ∨ SqT K H a xs
structure Car (K : PySem.W.Frag) (H H' : Hp) (a : Addr) : Prop where
  l : ∀ xs, SqL K H a xs → SqL K H' a xs
  t : ∀ xs, SqT K H a xs → SqT K H' a xs
theorem Kp.car {K : PySem.W.Frag} {M : List Addr} {H H' : Hp} {a : Addr} (k : Kp M H H') (f : FreeS M H) : Car K H H' a := ⟨fun _ h => k.sqL f h, fun _ h => k.sqT f.t h⟩
theorem SqE.kp {K : PySem.W.Frag} {M : List Addr} {H H' : Hp} {a : Addr} {xs : List V} (h : SqE K H a xs) (k : Kp M H H') (f : FreeS M H) : SqE K H' a xs := by
  rcases h with h | h
  · exact .inl (k.sqL f h)
  · exact .inr (k.sqT f.t h)
theorem for_seqE {K : PySem.W.Frag} {a : Addr} {xs : List V} {g : TG} {tb : TS} {D : Ends} {σ : L2.St} {H H0 : Hp} (h : SqE K H0 a xs) (Pv : Nat → L2.St → Hp → Prop) (h0 : Pv 0 σ H) (hl : ∀ i σ' H', Pv i σ' H' → Car K H0 H' a)
    (hs : ∀ i x σ H, xs[i]? = some x → Pv i σ H → g x σ H fun σ2 H2 => tb { D with nx := Pv (i + 1), ct := Pv (i + 1), bk := D.nx } σ2 H2) (hd : ∀ σ H, Pv xs.length σ H → D.nx σ H) :
    ((∃ xs, SqL K H a xs) ∧ ∃ W : Nat → Nat → L2.St → Hp → Prop, (∃ m, W 0 m σ H) ∧ ∀ i m σ H, W i m σ H →
      ((Itl K a).stop i H ∧ D.nx σ H) ∨ ((Itl K a).go i H ∧ ∃ N : L2.St → Hp → Prop, (∀ σ' H', N σ' H' → ∃ m', m' < m ∧ W (i + 1) m' σ' H') ∧ ∀ x H', (Itl K a).yld i H x H' → g x σ H' fun σ2 H2 => tb { D with nx := N, ct := N, bk := D.nx } σ2 H2)) ∨
    ((∃ xs, SqT K H a xs) ∧ ∃ W : Nat → Nat → L2.St → Hp → Prop, (∃ m, W 0 m σ H) ∧ ∀ i m σ H, W i m σ H →
      ((Itt K a).stop i H ∧ D.nx σ H) ∨ ((Itt K a).go i H ∧ ∃ N : L2.St → Hp → Prop, (∀ σ' H', N σ' H' → ∃ m', m' < m ∧ W (i + 1) m' σ' H') ∧ ∀ x H', (Itt K a).yld i H x H' → g x σ H' fun σ2 H2 => tb { D with nx := N, ct := N, bk := D.nx } σ2 H2)) := by
  rcases h with h | h
  · exact .inl ⟨⟨xs, (hl _ _ _ h0).l xs h⟩, for_list (xs := xs) Pv h0 (fun i σ' H' _ p => (hl i σ' H' p).l xs h) hs hd⟩
  · exact .inr ⟨⟨xs, (hl _ _ _ h0).t xs h⟩, for_tup (xs := xs) Pv h0 (fun i σ' H' _ p => (hl i σ' H' p).t xs h) hs hd⟩
theorem dp_seqE {K : PySem.W.Frag} {H : Hp} {v : V} {d : PyData} {es : List PyData} (h : Dp K H v d) (e : norm d = .tuple es) : ∃ a xs ds, v = .ref a ∧ SqE K H a xs ∧ DpAll K H xs ds ∧ ds.map norm = es ∧ (d = .list ds ∨ d = .tuple ds) := by
  cases d with
  | none => rw [norm] at e; cases e
  | bool _ => rw [norm] at e; cases e
  | int _ => rw [norm] at e; cases e
  | str _ => rw [norm] at e; cases e
  | dict _ => rw [norm] at e; cases e
  | list ds =>
    rw [norm, normA_map] at e
    injection e with e
    obtain ⟨a, xs, rfl, hq, hA⟩ := dp_lst h
    exact ⟨a, xs, ds, rfl, .inl hq, hA, e, .inl rfl⟩
  | tuple ds =>
    rw [norm, normA_map] at e
    injection e with e
    obtain ⟨a, xs, rfl, hq, hA⟩ := dp_tup h
    exact ⟨a, xs, ds, rfl, .inr hq, hA, e, .inr rfl⟩
theorem zpK_kvs : ∀ (ns : List Str) (is : List Int), zpK ns (is.map V.int) = kvs (ns.zip is)
  | [], _ => by simp [zpK, kvs]
  | _ :: _, [] => by simp [zpK, kvs]
  | n :: ns, i :: is => by
    have ih := zpK_kvs ns is
    simp only [zpK, kvs, List.map_cons, List.zip_cons_cons] at *
    rw [ih]
def spCounts (K : PySem.W.Frag) (CP CR CN : Addr) : Sp := fun vs H Q E => ∃ (pr : Addr) (v u : V) (N : List Str) (k : Nat) (b : Blk) (d e : PyData), vs = [.ref pr, v, u] ∧ PrOk N k b ∧ ProgAt K CP H pr N k b ∧ Dp K H v d ∧ Dp K H u e ∧ dlen d ≤ 1000 ∧
  (okRows k d = false → ∀ dx H', H dx = none → Kp [] H H' → H' dx = some (.xd [("value", v)]) → E (.ref CR) (some dx) H') ∧
  (okRows k d = true → ok0 e = false → ∀ dx H', H dx = none → Kp [] H H' → H' dx = some (.xd [("value", u), ("what", .str "turns")]) → E (.ref CN) (some dx) H') ∧
  (okRows k d = true → ok0 e = true → ∃ (rows : List (List Int)) (turns : Nat), e = .int (turns : Nat) ∧ turns ≤ 500 ∧ norm d = .tuple (rows.map intsD) ∧
    ∀ (t : Addr) H', H t = none → Kp [] H H' → H' t = some (.tup (intsOf (countAll b turns (envs N k rows) (List.replicate (graphOf b).2.length 0)))) → Q (.ref t) H')
theorem sc_counts : FnScope ["program", "rows", "turns", "graph", "found", "row"] ["program", "rows", "turns"] (C8.fnScope (topS 31)) := C8.fnScope_by (by decide +kernel)
section
variable {P : Program} {w : World} {K : PySem.W.Frag} {mg : Str → Option Value} {base : Heap}
theorem counts_ok (T : Txt K mg) (Te : Txe K mg T) (Ex : Txx K mg) (hne : T.C_Graph ≠ T.C_Edge) : CalX P w K mg base 36 "counts" (spCounts K T.C_Program Ex.C_Row Ex.C_Num) := by
  have nd := sc_counts.nd
  have c_check_rows := chkr_ok (P := P) (w := w) (base := base) T Te Ex
  have c_check_from_0 := chk0_ok (P := P) (w := w) (base := base) T Ex
  have c_graph_of := graphof_ok (P := P) (w := w) (base := base) T Te hne
  have c_tally := tally_ok (P := P) (w := w) (base := base) T
  have c_values_at := vat_ok (P := P) (w := w) (base := base) T
  refine calXD Ex.d_counts sc_counts (fun vs H Q E h => ?_) (fun f cdv A outer s0 H vs Q E hr h => ?_)
  · obtain ⟨pr, v, u, N, k, b, d, e, rfl, _⟩ := h
    rfl
  obtain ⟨pr, v, u, N, k, b, d, e, rfl, hP, hpr, hd, he, hl, q1, q2, q3⟩ := h
  have hu := hu_of hr
  have hNl := hP.nm
  refine ⟨_, (pss_cons (ps_expr (pe_cx c_check_rows hr (by omega) rfl (passes_call (takes_of rfl rfl rfl rfl) fun _ _ _ _ h => h) (pa_cons (pv 0) (pa_cons (pv 1) pa_nil))))
  (pss_cons (ps_expr (pe_cx c_check_from_0 hr (by omega) rfl (passes_call (takes_of rfl rfl rfl rfl) fun _ _ _ _ h => h) (pa_cons pe_str (pa_cons (pv 2) pa_nil))))
  (pss_cons (ps_asg (pe_c c_graph_of hr (by omega) rfl (pa_cons (pv 0) pa_nil)) (pg_name (i := 3) nd rfl (Or.inl rfl)))
  (pss_cons (ps_asg (pe_op op_rep (pe_lst (pa_cons pe_int pa_nil)) (pe_callB (id := "len") call_len_seq (by rfl) T.z_len PySem.boot_len (pa_cons (pe_fld (pv 3) rfl) pa_nil))) (pg_name (i := 4) nd rfl (Or.inl rfl)))
  (pss_cons (ps_for (passes_of rfl) rfl (pi_seq (pv 1)) (pg_name (i := 5) nd rfl (Or.inl rfl))
    (pss_one (ps_expr (pe_c c_tally hr (by omega) rfl (pa_cons (pv 3) (pa_cons (pe_c c_values_at hr (by omega) rfl (pa_cons (pe_listZip rfl (pa_cons (pe_fld (pv 0) rfl) (pa_cons (pv 5) pa_nil)) rfl T.z_list rfl T.z_zip) pa_nil)) (pa_cons (pv 2) (pa_cons (pv 4) pa_nil))))))))
  (pss_one (ps_ret (pe_callTy (T := "tuple") call_tuple_of (by rfl) T.z_tuple (by decide +kernel) (pa_cons (pv 4) pa_nil))))))))), ?_⟩
  refine ⟨_, rfl, _, rfl, pr, v, N, k, b, d, rfl, hpr, hP.k, ?_, hd, hl, fun ok1 H1 k1 => ?_, q1⟩
  · have := hNl.len
    omega
  refine ⟨_, rfl, .str "turns", u, e, rfl, k1.dp FreeS.nil he, fun ok2 => ?_, fun ok2 dx H2 h1 h2 h3 => q2 ok1 ok2 dx H2 (k1.free h1) (k1.trans h2) h3⟩
  obtain ⟨rows, turns, rfl, hts, hnd, q⟩ := q3 ok1 ok2
  have hu1 := dp_int he
  subst hu1
  clear q1 q2 q3
  refine ⟨_, rfl, pr, N, k, b, rfl, hP, hpr.kp0 k1, fun g H2 k2 hG => ?_⟩
  obtain ⟨gdx, gt, gm, as, hg1, hg2, hg3⟩ := id hG.ex
  have alen := Paired.length hg3
  have gl := graph_len hP.ok
  have hsz := hP.size
  have hgood := graph_good b
  have hok := graph_ok' hP.ok
  generalize hes : (graphOf b).2 = es at *
  refine ⟨(by show 1 ≤ sizeLine; decide), fun z0 hz0 => ?_⟩
  have k3 : Kp [] H2 (upd H2 z0 (.lst [.int 0])) := Kp.new hz0
  refine ⟨_, rfl, g, T.C_Graph, gdx, _, _, rfl, k3.at hg1 (by simp), T.cl_Graph, T.n_Graph_edges, rfl, gt, _, rfl, .inr (k3.sqT FreeS.nil.t hg2), ?_⟩
  refine ⟨z0, _, _, rfl, rfl, upd_same, by omega, by rw [List.length_map]; omega, sm (by rw [List.length_map]; show 1 * _ ≤ _; omega), fun F hF => ?_⟩
  have erep : (List.replicate (((as.map V.ref).length : Nat) : Int).toNat [V.int 0]).flatten = intsOf (List.replicate es.length 0) := by
    have : (((as.map V.ref).length : Nat) : Int).toNat = es.length := by rw [List.length_map]; omega
    rw [this]
    unfold intsOf
    rw [List.map_replicate]
    exact rep_flat _
  rw [erep]
  have k4 : Kp [] H2 (upd (upd H2 z0 (.lst [.int 0])) F (.lst (intsOf (List.replicate es.length 0)))) := k3.trans (Kp.new hF)
  have F4 : (upd (upd H2 z0 (.lst [.int 0])) F (.lst (intsOf (List.replicate es.length 0)))) F = some (.lst (intsOf (List.replicate es.length 0))) := upd_same
  have k02 : Kp [] H H2 := k1.trans k2
  have HF : H2 F = none := k3.free hF
  show (fun H4 : Hp => _) (upd (upd H2 z0 (.lst [.int 0])) F (.lst (intsOf (List.replicate es.length 0))))
  generalize upd (upd H2 z0 (.lst [.int 0])) F (.lst (intsOf (List.replicate es.length 0))) = H4 at *
  have hd4 := (k02.trans k4).dp FreeS.nil hd
  obtain ⟨a, xs, ds, rfl, hq, hA, hnm, hdd⟩ := dp_seqE (k02.dp FreeS.nil hd) hnd
  have k0 := k02.trans k4
  have hrows : ds.all (okIn k) = true := by
    rcases hdd with rfl | rfl
    · exact ok1
    · exact ok1
  have xl := dpA_len hA
  have dl : ds.length = rows.length := by
    have := congrArg List.length hnm
    rw [List.length_map, List.length_map] at this
    exact this
  refine ⟨_, rfl, a, rfl, ?_⟩
  refine for_seqE (xs := xs) hq (fun i σ H' => ∃ (v5 : Option V) (fl : List Int), σ = [some (.ref pr), some (.ref a), some (.int (turns : Nat)), some (.ref g), some (.ref F), v5] ∧ Kp [] H2 H' ∧ H' F = some (.lst (intsOf fl)) ∧ fl.length = es.length ∧
      countAll b turns (envs N k (rows.drop i)) fl = countAll b turns (envs N k rows) (List.replicate es.length 0))
    ⟨_, _, rfl, k4, F4, by simp, rfl⟩ (fun i σ' H' h => by
      obtain ⟨_, _, _, kk, _⟩ := h
      exact kk.car FreeS.nil) ?_ ?_
  · rintro i x _ H5 hx ⟨v5, fl, rfl, k5, F5, fll, eC⟩
    have k05 := k02.trans k5
    obtain ⟨di, hdi, hdx⟩ := dpA_at' (k5.dpA FreeS.nil hA) hx
    have dmem := List.mem_of_getElem? hdi
    have hil : i < rows.length := by
      have := (List.getElem?_eq_some_iff.mp hdi).1
      omega
    have hnm1 : norm di = intsD rows[i] := by
      have h1 := congrArg (fun l => l[i]?) hnm
      simp only [List.getElem?_map, hdi, List.getElem?_eq_getElem hil, Option.map_some] at h1
      exact Option.some.inj h1
    have isl := okIn_len (List.all_eq_true.mp hrows di dmem) hnm1
    have ed : rows.drop i = rows[i] :: rows.drop (i + 1) := List.drop_eq_getElem_cons hil
    rw [ed] at eC
    generalize rows[i] = is at *
    obtain ⟨ra, rfl, hra⟩ := dp_row hdx hnm1
    obtain ⟨pdx, ti, vb, hp1, hp2, hp3⟩ := (hpr.kp0 k05).ex
    have hG5 := hG.kp0 k5
    have nl := hNl.len
    have hkN := hP.k
    have tl : (N.take k).length = k := by rw [List.length_take]; have := hP.k; omega
    refine ⟨_, rfl, _, rfl, pr, T.C_Program, pdx, _, _, rfl, hp1, T.cl_Program, T.n_Program_inputs, rfl, _, rfl, ti, ra, N.take k, _, rfl, hp2, hra, by rw [List.length_map]; omega, by omega, fun H6 p ts hk6 hp0 hts0 hpt hpl hpp => ?_⟩
    have k6 : Kp [] H5 H6 := fun y o _ hy => hk6 y o hy
    rw [zpK_kvs] at hpp
    have zl : ((N.take k).zip is).length = k := by rw [List.length_zip]; omega
    refine ⟨p, (N.take k).zip is, rfl, ⟨ts, hpl, paired_mono (fun t kv h => SqT.of h) hpp⟩, by omega, fun nd H7 hnd7 k7 hnow => ?_⟩
    have k57 := k6.trans k7
    have hrun := run_ok b (env0 ((N.take k).zip is)) turns hP.ok
    generalize hrr : runOf b (env0 ((N.take k).zip is)) turns = r at hrun
    obtain ⟨qp, env', hpath, hdl, hq1, _⟩ := hrun.ex
    rw [hes] at hpath
    have el : (env0 ((N.take k).zip is)).length ≤ 0 + ((N.take k).zip is).length := foldl_put_len _ []
    refine ⟨_, rfl, _, rfl, g, nd, F, turns, es, _, env', fl, r.deeds, qp, N, rfl, hG5.kp0 k57, hgood.1, hgood.2, hok, by omega, hnow, k57.at F5 (by simp), fll, hpath, hdl, hq1, by omega, fun H8 k8 F8 => ?_⟩
    have k58 : Kp [F] H5 H8 := fun y o hy1 hy2 => by
      refine k8 y o ?_ (k57 y o (by simp) hy2)
      simp only [List.mem_cons, List.not_mem_nil, or_false, not_or]
      exact ⟨ne_of_none hy2 (k6.free hnd7), by simpa using hy1⟩
    refine ⟨_, _, rfl, ?_, F8, by rw [walkN_len]; exact fll, ?_⟩
    · exact fun y o hy1 hy2 => k58 y o (by simpa using ne_of_none hy2 HF) (k5 y o hy1 hy2)
    · rw [← eC]
      show _ = countAll b turns (env0 ((N.take k).zip is) :: envs N k (rows.drop (i + 1))) fl
      rw [countAll, hrr, hes]
  · rintro _ H5 ⟨v5, fl, rfl, k5, F5, fll, eC⟩
    rw [List.drop_eq_nil_of_le (by omega)] at eC
    have eC' : fl = countAll b turns (envs N k rows) (List.replicate es.length 0) := eC
    refine ⟨_, rfl, F, _, rfl, .inl ⟨SqL.of F5, fun t ht => ?_⟩⟩
    refine q t _ ((k02.trans k5).free ht) ((k02.trans k5).trans (Kp.new ht)) ?_
    rw [upd_same, eC']
end
end Sv
end
section
set_option Elab.async false
set_option linter.all false
set_option autoImplicit false
set_option maxRecDepth 100000
/-! W30: several except clauses that name the error. -/
namespace Sv
open PySem PySem.Spec PyProof.Rows L2
/-- what the clauses wish of an error of the body, each with a name in a slot -/
def wAsAll (K : PySem.W.Frag) (Wout : WX) (D : Ends) : List (Value × Nat × (Addr → Value → Option Addr → TS)) → WX
  | [] => Wout
  | (c, i, ts) :: r => fun cls d σ H => ∃ b, PySem.W.exmOne K cls c = some b ∧
      (b = true → ∀ a, H a = none → ts a cls d { nx := fun σ' H' => D.nx (σ'.set i none) H', rt := D.rt, bk := fun σ' H' => D.bk (σ'.set i none) H', ct := fun σ' H' => D.ct (σ'.set i none) H' } (σ.set i (some (.ref a))) H) ∧
      (b = false → wAsAll K Wout D r cls d σ H)
inductive HdAs (X : Cx) : List ExceptHandler → List (Value × Nat × (Addr → Value → Option Addr → TS)) → Prop
  | nil : HdAs X [] []
  | cons {x n : Str} {c : Value} {i : Nat} {ts : Addr → Value → Option Addr → TS} {b₀ : Stmt} {suite : List Stmt} {np pos' : Pos} {hds : List ExceptHandler} {l : List (Value × Nat × (Addr → Value → Option Addr → TS))} (hc : Names X x c) (hi : X.N[i]? = some n) (hln : X.env.kindOf n = some .local)
      (hsu : ∀ (a : Addr) (oe : Obj) (cls : Value) (d : Option Addr) (pn : List (Addr × Obj)), Zc cls d oe → (∃ vs, oe.data = .fields vs) → PSs (X.suite a ((a, oe) :: pn)) (b₀ :: suite) (ts a cls d)) (r : HdAs X hds l) :
      HdAs X (.ExceptHandler (some (.Name x np)) (some n) (b₀ :: suite) pos' :: hds) ((c, i, ts) :: l)
section
variable {X : Cx} {body : List Stmt} {h₀ : ExceptHandler} {hds : List ExceptHandler} {l : List (Value × Nat × (Addr → Value → Option Addr → TS))} {pos : Pos} {tb : WX → TS} {Wout : WX}
/-- an error that flies over this frame, at the clauses -/
theorem clauses_as {D : Ends} {pins : List (Addr × Obj)} {σ : L2.St} {H : Hp} {a : Addr} {B : Heap} {cls : Value} {d : Option Addr} {sI s : Shared} (ok : X.Ok) (hs : X.stack = X.env :: X.outer) (hf : X.env.frame = some X.env.locals) (hN : X.N.Nodup) (tk : Takes X Wout)
    (J : Inv X pins σ H sI) (nb : ∀ b o, sI.heap.get? b = some o → b ∉ frs X.stack → B.get? b = some o) (up : sI.heap.UpToSlots s.heap) (fl : HandSPX.FlyingZ B (X.env :: X.outer) a (Zc cls d) s.heap) (na : H a = none) (os : s.os = sI.os) (ag : AllBare s.gens)
    {hk : List ExceptHandler} {lk : List (Value × Nat × (Addr → Value → Option Addr → TS))} (hh : HdAs X hk lk) : wAsAll X.K Wout D lk cls d σ H → wpAny (model X.prog X.w) X.A (handleBy (.ref a) X.env hk) (SP X pins D) X.xe s := by
  have hB : X.stack = X.env :: X.outer := hs
  have off : ∀ {h : Heap} {o : Obj} {vs : Array Value}, h.FunFrames B (X.env :: X.outer) → h.get? a = some o → o.data = .fields vs → a ∉ frs (X.env :: X.outer) := fun ff e dd hm => by
    obtain ⟨_, o', e', hnf⟩ := ff.mem hm
    rw [e] at e'
    cases e'
    exact hnf _ dd
  have J3 : Inv X pins σ H s := J.landed nb fl.1 up os ag
  obtain ⟨oe3, vs3, he3, hz3, hd3⟩ := fl.there
  have nfr := off fl.2.2.1 he3 hd3
  have nL : a ≠ X.env.locals := fun z => nfr (List.mem_filterMap.mpr ⟨X.env, List.mem_cons_self, by rw [hf, z]⟩)
  have nF : a ∉ X.fs := fun hm => by
    obtain ⟨e, he, q⟩ := List.mem_filterMap.mp hm
    exact nfr (List.mem_filterMap.mpr ⟨e, List.mem_cons_of_mem _ he, q⟩)
  have S3 := J3.suite he3 hd3 na nL nF
  induction hh with
  | nil =>
    intro w
    refine wpAny_handleBy_nil ?_
    obtain ⟨_, _, _, oe, vs, T, _, _, he, _, hd, h1, _⟩ := id fl
    have away : wpAny (model X.prog X.w) X.A (setFlight (.ref a) X.env.frame) (fun _ s4 => wpAny (model X.prog X.w) X.A (throw (.ref a) : Sem Flow) (SP X pins D) X.xe s4) X.xe s := by
      rw [hf]
      refine HandSPX.setFlight_upZ fl fun h4 hh4 up4 => wpAny_throw (tk _ _ ?_)
      exact ⟨a, B, sI, pins, σ, H, cls, d, rfl, J, nb, up.trans up4, .inr (.inr (by rw [hs]; exact hh4)), na, os, ag, w⟩
    unfold PySem.passOn
    refine wpAny_bind (wpAny_field he hd h1 ?_)
    rw [if_neg (show ¬ ((Value.ref T == Value.none) = true) from by simp)]
    first
      | exact wpAny_bind (wpAny_pure (wpAny_bind away))
      | exact wpAny_bind away
  | @cons x n c i ts b₀ suite np pos' hds2 l2 hc hi hln hsu r ih =>
    intro w
    obtain ⟨b, hb1, hyes, hno⟩ := w
    refine wpAny_handleBy_cons (codeAny_handlers_test ?_) (by intro q; cases q)
    have LT : PySem.W.Looks (model X.prog X.w) s.heap (typeOf (.ref a)) cls := fun A Q E s k q => wpAny_typeOf_ref (k _ _ he3) (by rw [hz3.1]; exact q)
    have LM := PySem.W.exm_one (M := model X.prog X.w) (J3.kIn) LT hb1
    have named : ∀ {Q : Value → Shared → Prop} {E : Value → Shared → Prop}, Q c s → wpAny (model X.prog X.w) (X.A.mark (some (.ref a))) (eval (.Name x np) X.env) Q E s := fun {Q E} q => by
      obtain ⟨hg, hdbg, hm | ⟨hm, hv, hnn⟩⟩ := hc
      · exact ld_glob (X := X.suite a ((a, oe3) :: (X.pn ++ pins))) S3 hg hm q hdbg
      · exact ld_blt (X := X.suite a ((a, oe3) :: (X.pn ++ pins))) S3 hg hm hv q hnn hdbg
    refine named (LM.here ?_)
    cases b with
    | false =>
      show wpAny _ X.A (handleBy (.ref a) X.env hds2) _ _ _
      exact ih (hno rfl)
    | true =>
      refine codeAny_handlers_suite_as ?_
      refine HandSPX.lands_againZ fl fun h4 fl4 up4 => ?_
      have J4 : Inv X pins σ H { s with heap := h4 } := J.landed nb fl4.1 (up.trans up4) os ag
      obtain ⟨oe4, vs4, he4, hz4, hd4⟩ := fl4.there
      have S4 := J4.suite he4 hd4 na nL nF
      refine store_ok (X := X.suite a ((a, oe4) :: (X.pn ++ pins))) (v := .ref a) S4 hN hi (show Loc X.env.scope n from .inl hln) rfl (fun s5 S5 => ?_) (.inr hln)
      refine wpAny_mono ((hsu a oe4 cls d (X.pn ++ pins) hz4 ⟨_, hd4⟩).run [] s5 _ H _ S5 (hyes rfl a na)) (fun f s6 hsp => ?_) (fun _ _ z => False.elim z)
      have last : ∀ {σ6 : L2.St} {H6 : Hp} {Q : Shared → Prop}, Inv (X.suite a ((a, oe4) :: (X.pn ++ pins))) [] σ6 H6 s6 → (∀ s7, Inv X pins (σ6.set i none) H6 s7 → Q s7) →
          wpAny (model X.prog X.w) X.A (do bindName X.env n .none; unbindBehindTheSuite X.env n pos') (fun _ s7 => Q s7) X.xe s6 := fun S6 hq => gone_ok (S6.unsuite ok) hN hi hln hq
      cases f with
      | next =>
        obtain ⟨σ6, H6, S6, q6⟩ := hsp
        exact last S6 fun s7 J7 => ⟨_, _, J7, q6⟩
      | brk =>
        obtain ⟨σ6, H6, S6, q6⟩ := hsp
        exact last S6 fun s7 J7 => ⟨_, _, J7, q6⟩
      | cont =>
        obtain ⟨σ6, H6, S6, q6⟩ := hsp
        exact last S6 fun s7 J7 => ⟨_, _, J7, q6⟩
      | ret u =>
        obtain ⟨v6, σ6, H6, S6, r6, q6⟩ := hsp
        exact last S6 fun s7 J7 => ⟨_, _, _, J7, r6, q6⟩
theorem ps_try_asAll (hs : X.stack = X.env :: X.outer) (hf : X.env.frame = some X.env.locals) (hN : X.N.Nodup) (tk : Takes X Wout)
    (hb : ∀ (W : WX) (pn : List (Addr × Obj)) (xe : Value → Shared → Prop), Takes (X.tr pn xe) W → PassesOwn (model X.prog X.w) X.A X.env xe → PSs (X.tr pn xe) body (tb W))
    (hh : HdAs X (h₀ :: hds) l) : PS X (.Try body (h₀ :: hds) [] [] pos) (fun D σ H => tb (wAsAll X.K Wout D l) D σ H) := by
  refine ⟨fun pins s σ H D I h => ?_⟩
  have ok := I.ok
  have hfr : X.A.frames = some (X.env :: X.outer) := by rw [ok.frames, hs]
  refine wpAny_Try_except ?_
  refine wpAny_mono ((hb (wAsAll X.K Wout D l) (X.pn ++ pins) (fun e s₁ => wpAny (model X.prog X.w) X.A (noteFrame e X.env) (fun _ s₂ => wpAny (model X.prog X.w) X.A (setFlight e none) (fun _ s₃ =>
    wpAny (model X.prog X.w) X.A (handleBy e X.env (h₀ :: hds)) (SP X pins D) X.xe s₃) X.xe s₂) X.xe s₁) (fun u s' xx => ?_) PassesOwn.looking).run [] s σ H D (I.toTry _) h) (fun f s1 hsp => ?_) (fun e s1 he => he)
  · obtain ⟨a, B, sI, pins', σ', H', cls, d, rfl, J', nb, up, sky, na, os, ag, w⟩ := xx
    have sky' : Sky B (X.env :: X.outer) a (Zc cls d) X.env.locals s'.heap := by rw [← hs]; exact sky
    show wpAny (model X.prog X.w) X.A (noteFrame (.ref a) X.env) _ _ _
    exact Sky.land Zc.steady hfr hf sky' fun h3 fl3 up3 => clauses_as (s := { s' with heap := h3 }) ok hs hf hN tk (J'.ofTry ok) nb (up.trans up3) fl3 na os ag hh w
  · cases f with
    | next =>
      obtain ⟨σ', H', J', q⟩ := hsp
      exact wpAny_execs_nil ⟨σ', H', J'.ofTry ok, q⟩
    | brk =>
      obtain ⟨σ', H', J', q⟩ := hsp
      exact ⟨σ', H', J'.ofTry ok, q⟩
    | cont =>
      obtain ⟨σ', H', J', q⟩ := hsp
      exact ⟨σ', H', J'.ofTry ok, q⟩
    | ret u =>
      obtain ⟨v, σ', H', J', r, q⟩ := hsp
      exact ⟨v, σ', H', J'.ofTry ok, r, q⟩
end
end Sv
end
section
set_option Elab.async false
set_option linter.all false
set_option autoImplicit false
set_option maxRecDepth 100000
/-! W31: what _law_fault makes of a call that may raise. -/
namespace Sv
open PySem PySem.Spec PyProof.Rows L2
open C8 (pe_c pe_mt pe_mt0 pe_mk pe_gc)
/-- further facts of the two errors -/
structure Txg (K : PySem.W.Frag) (mg : Str → Option Value) (Ex : Txx K mg) : Prop where
  xrow : XfC K Ex.C_Row
  xnum : XfC K Ex.C_Num
  rr : PySem.W.exmOne K (.ref Ex.C_Row) (.ref Ex.C_Row) = some true
  nr : PySem.W.exmOne K (.ref Ex.C_Num) (.ref Ex.C_Row) = some false
  nn : PySem.W.exmOne K (.ref Ex.C_Num) (.ref Ex.C_Num) = some true
/-- what an error tells: its class and its fields -/
def ErrW (CR CN : Addr) (Q : VK) : XK := fun cls d H =>
  (cls = .ref CR ∧ ∃ (dd : Addr) (v : V), d = some dd ∧ H dd = some (.xd [("value", v)]) ∧ ∀ t, H t = none → Q (.ref t) (upd H t (.tup [.str "row", v]))) ∨
  (cls = .ref CN ∧ ∃ (dd : Addr) (v u : V), d = some dd ∧ H dd = some (.xd [("value", v), ("what", u)]) ∧ ∀ t, H t = none → Q (.ref t) (upd H t (.tup [u, v])))
def TFault (CR CN : Addr) : (XK → Hp → VK → Prop) → Hp → VK → Prop := fun tl H Q => tl (ErrW CR CN Q) H fun _ H' => ∃ v, (some (some V.non) : Option (Option V)) = some (some v) ∧ Q v H'
theorem takes_len {X : Cx} {W : WX} (t : Takes X W) : Takes X (fun c d σ H => σ.length = X.N.length → W c d σ H) := fun u s' x => by
  obtain ⟨a, B, sI, pins, σ, H, cls, d, e, I, nb, up, sky, na, os, ag, w⟩ := x
  exact t u s' ⟨a, B, sI, pins, σ, H, cls, d, e, I, nb, up, sky, na, os, ag, w I.len⟩
theorem sc_fault : FnScope ["_law_call", "_law_got", "e"] ["_law_call"] (C8.fnScope (topS 92)) := C8.fnScope_by (by decide +kernel)
theorem fault_gives {X : Cx} (Ex : Txx X.K X.mg) (Fx : Txg X.K X.mg Ex) {g : Addr} {cdg : Value} {q : Str} :
    LamX.GivesTo X ["_law_call", "_law_got", "e"] "_law_fault" (C8.fnScope (topS 92)) g cdg (C8.fnBody (topS 92)) "_law_call" q (TFault Ex.C_Row Ex.C_Num) := by
  have nd := sc_fault.nd
  intro f c' s H Q tl act hc h
  refine ⟨_, pss_cons (ps_asg pe_non (pg_name (i := 1) nd rfl (Or.inl rfl))) (pss_cons (ps_try_asAll (tb := fun W D σ H => ∃ Ech : XK, (∀ cls d σ' H', σ'.length = 3 → Ech cls d H' → W cls d σ' H') ∧ σ[0]? = some (some (.ref f)) ∧ H c' = some (LamX.CodeO c' q) ∧ tl Ech H fun _ H' => D.nx σ H')
    rfl rfl nd LamX.takes0 (fun W pn xe tk _ => ?_)
    (.cons (i := 2) ⟨rfl, by decide, .inl Ex.row.gl⟩ rfl rfl (fun a oe cls d pn hz hf => pss_one (ps_asg (pe_tup (pa_cons pe_str (pa_cons (pe_xf Fx.xrow Ex.row.no_value hz hf (pv 2)) pa_nil))) (pg_name (i := 1) nd rfl (Or.inl rfl))))
      (.cons (i := 2) ⟨rfl, by decide, .inl Ex.num.gl⟩ rfl rfl (fun a oe cls d pn hz hf => pss_one (ps_asg (pe_tup (pa_cons (pe_xf Fx.xnum Ex.num.no_what hz hf (pv 2)) (pa_cons (pe_xf Fx.xnum Ex.num.no_value hz hf (pv 2)) pa_nil))) (pg_name (i := 1) nd rfl (Or.inl rfl)))) .nil)))
    (pss_one (ps_ret (pv 1)))), ?_⟩
  · refine ⟨fun pins s' σ H' D I h' => ?_⟩
    obtain ⟨Ech, hW, h1, h2, h3⟩ := h'
    exact (pss_one (ps_expr (act (fun c d σ H => σ.length = 3 → W c d σ H) pn xe Ech _ _ (takes_len tk) (fun cls d σ' H' e l => hW cls d σ' H' l e)))).run pins s' σ H' D I ⟨h1, h2, h3⟩
  · refine ⟨ErrW Ex.C_Row Ex.C_Num Q, fun cls d σ' H' hl e => ?_, rfl, hc, ?_⟩
    · match σ', hl with
      | [x0, x1, x2], _ =>
        rcases e with ⟨rfl, dd, v, rfl, hdd, e⟩ | ⟨rfl, dd, v, u, rfl, hdd, e⟩
        · refine ⟨true, Fx.rr, ?_⟩
          refine And.intro (fun _ a ha => ?_) (by intro z; cases z)
          refine ⟨_, rfl, rfl, rfl, dd, _, v, rfl, hdd, rfl, (by show 2 ≤ sizeLine; decide), fun t ht => ?_⟩
          exact ⟨_, rfl, e t ht⟩
        · refine ⟨false, Fx.nr, ?_⟩
          refine And.intro (by intro z; cases z) fun _ => ?_
          refine ⟨true, Fx.nn, ?_⟩
          refine And.intro (fun _ a ha => ?_) (by intro z; cases z)
          refine ⟨_, rfl, rfl, rfl, dd, _, u, rfl, hdd, rfl, _, rfl, rfl, rfl, dd, _, v, rfl, hdd, rfl, (by show 2 ≤ sizeLine; decide), fun t ht => ?_⟩
          exact ⟨_, rfl, e t ht⟩
    · exact h
end Sv
end
section
set_option Elab.async false
set_option linter.all false
set_option autoImplicit false
set_option maxRecDepth 100000
/-! W32: is_name, is_plain. -/
namespace Sv
open PySem PySem.Spec PyProof.Rows L2
open C8 (pe_c pe_mt pe_mt0 pe_mk pe_gc)
abbrev keywords : List Str := ["program", "of", "if", "else", "while", "loop", "end", "break", "next", "give", "skip", "plus", "less", "times", "below", "most", "is", "not", "and", "or"]
abbrev letters : Str := "abcdefghijklmnopqrstuvwxyz"
abbrev digits : Str := "0123456789"
def nameB (x : Str) : Bool := decide (1 ≤ x.length) && (decide (x.length ≤ 8) && (!inV (.str x) (keywords.map V.str) && ((match atI x.cps.toList 0 with
  | some c => decide (c ∈ letters.cps.toList)
  | none => false) && x.cps.toList.all fun c => decide (c ∈ (letters ++ digits).cps.toList))))
def spIsName : Sp := fun vs H Q _ => ∃ v : V, vs = [v] ∧ ((∃ x, v = .str x ∧ nameB x = true ∧ ∀ H', Kp [] H H' → Q (.bl true) H') ∨ (∃ i, v = .int i ∧ Q (.bl false) H))
theorem sc_isname : FnScope ["value", "sign"] ["value"] (C8.fnScope (topS 46)) := C8.fnScope_by (by decide +kernel)
theorem kw_flat : (keywords.map V.str).all flatV = true := by decide +kernel
inductive PlainOk : Str → V → Prop
  | name {x : Str} (h : nameB x = true) : PlainOk "name" (.str x)
  | factor {i : Int} (h1 : -999 ≤ i) (h2 : i ≤ 999) : PlainOk "factor" (.int i)
  | opn {x : Str} (h : nameB x = true) : PlainOk "operand" (.str x)
  | opi {i : Int} (h1 : -999 ≤ i) (h2 : i ≤ 999) : PlainOk "operand" (.int i)
def spIsPlain : Sp := fun vs H Q _ => ∃ (v : V) (s : Str), vs = [v, .str s] ∧ PlainOk s v ∧ ∀ H', Kp [] H H' → Q (.bl true) H'
theorem sc_isplain : FnScope ["value", "sort"] ["value", "sort"] (C8.fnScope (topS 47)) := C8.fnScope_by (by decide +kernel)
section
variable {P : Program} {w : World} {K : PySem.W.Frag} {mg : Str → Option Value} {base : Heap}
theorem isname_ok (T : Txt K mg) : C8.Cal P w K mg base 1 "is_name" spIsName [] := by
  have nd := sc_isname.nd
  refine calD T.d_is_name sc_isname (fun vs H Q E h => ?_) (fun f cdv A outer s0 H vs Q E hr h => ?_)
  · obtain ⟨v, rfl, _⟩ := h
    rfl
  obtain ⟨v, rfl, h⟩ := h
  have hu := hu_of hr
  refine ⟨_, (pss_cons (ps_if (PW.pt (pw_or (pt_not (pt_val (pe_callB (id := "isinstance") call_isi (by rfl) T.z_isinstance (by decide +kernel) (pa_cons (pv 0) (pa_cons (pe_bltn (v := .ty "str") rfl T.z_str (by decide +kernel) rfl) pa_nil))))) (pw_or (pt_not (pt_chain op_le op_le pe_int (pe_callB (id := "len") call_len_str (by rfl) T.z_len PySem.boot_len (pa_cons (pv 0) pa_nil)) pe_int)) (pw_or1 (pt_cmpR op_in_seq (pv 0) (pe_gc rfl T.g_KEYWORDS) (by rfl)))))) (pss_one (ps_ret pe_bl)) pss_nil)
  (pss_one (ps_ret (pe_and (pe_cmpR op_in_sign (pe_ixc ix_str (pv 0)) (pe_gc rfl T.g_LETTERS) (by rfl)) (pe_one (pe_callB (id := "all") (cr_all rfl) (by rfl) T.z_all (by decide +kernel) (pa_cons (pe_lc (own := [("sign", 1)]) rfl nd (pi_str (pv 0)) (blkOk_by (N := ["value", "sign"]) (sc := C8.fnScope (topS 46)) (by decide +kernel)) (fun _ _ _ _ _ => (pg_name (i := 1) nd rfl (Or.inl rfl))) (fun _ _ _ _ _ => pts_nil) (fun _ _ _ _ _ => (pe_cmpR op_in_sign (pv 1) (pe_op op_add_str (pe_gc rfl T.g_LETTERS) (pe_gc rfl T.g_DIGITS)) (by rfl)))) pa_nil))))))), ?_⟩
  rcases h with ⟨x, rfl, hx, q⟩ | ⟨i, rfl, q⟩
  · unfold nameB at hx
    simp only [Bool.and_eq_true, Bool.not_eq_true', decide_eq_true_eq] at hx
    obtain ⟨h1, h2, h3, h4, h5⟩ := hx
    refine ⟨_, rfl, _, _, _, _, true, rfl, ClsV.ty _, TyX.base (.str x), kit_ty (b := "str") (by decide +kernel), _, rfl, iteF ?_⟩
    have hl8 : x.length ≤ sizeLine := Nat.le_trans h2 (by decide)
    refine ⟨_, rfl, x, rfl, hl8, _, _, rfl, rfl, _, rfl, ?_⟩
    refine ite2 (fun _ => ?_) (fun z => absurd (decide_eq_true (show (1 : Int) ≤ (x.length : Int) by omega)) z)
    refine ⟨_, _, rfl, rfl, _, rfl, ?_⟩
    rw [decide_eq_true (show (x.length : Int) ≤ 8 by omega)]
    refine iteF ?_
    refine ⟨_, rfl, _, _, rfl, .inr (T.t_KEYWORDS H), rfl, kw_flat, _, rfl, ?_⟩
    rw [show inV (V.str x) (keywords.map V.str) = false from h3]
    refine iteF ?_
    cases h0 : atI x.cps.toList 0 with
    | none =>
      rw [h0] at h4
      cases h4
    | some c =>
      rw [h0] at h4
      refine ⟨_, rfl, _, _, _, rfl, rfl, hl8, h0, c, _, rfl, rfl, _, rfl, ?_⟩
      rw [show decide (c ∈ letters.cps.toList) = true from h4]
      refine iteT ?_
      refine ⟨_, rfl, x, rfl, fun D hD => ?_⟩
      refine lc_it (walk_str (z := x)) (fun i H' => Kp [] H H' ∧ H' D = some (.lst (List.replicate i (V.bl true)))) ⟨Kp.new hD, upd_same⟩ (fun _ _ _ _ => trivial) ?_ ?_
      · rintro i y H1 H2 hi ⟨k1, hD1⟩ ⟨rfl, c1, hc1, rfl⟩
        refine ⟨rfl, ?_⟩
        refine ⟨_, rfl, _, _, rfl, rfl, (by decide +kernel), c1, _, rfl, rfl, ?_⟩
        have hm : c1 ∈ x.cps.toList := List.mem_of_getElem? (by rw [Array.getElem?_toList]; exact hc1)
        have hin := List.all_eq_true.mp h5 c1 hm
        refine ⟨_, hD1, sm' (by rw [List.length_replicate]; have : x.cps.size = x.length := rfl; omega), fun g o hg1 hg2 => ?_, ?_⟩
        · rw [upd_ne (ne_of_none hg2 hD)]
          exact k1 _ _ hg1 hg2
        · rw [upd_same, hin, List.replicate_succ']
      · rintro H1 ⟨k1, hD1⟩
        refine ⟨D, List.replicate x.cps.size true, rfl, SqL.of (by rw [List.map_replicate]; exact hD1), ?_⟩
        have : (List.replicate x.cps.size true).all id = true := List.all_eq_true.mpr fun z hz => by rw [List.mem_replicate] at hz; exact hz.2
        rw [this]
        exact q H1 k1
  · refine ⟨_, rfl, _, _, _, _, false, rfl, ClsV.ty _, TyX.base (.int i), kit_ty (b := "str") (by decide +kernel), _, rfl, iteT ?_⟩
    exact q
theorem isplain_ok (T : Txt K mg) : C8.Cal P w K mg base 2 "is_plain" spIsPlain [] := by
  have nd := sc_isplain.nd
  have c_is_name := isname_ok (P := P) (w := w) (base := base) T
  have c_is_int := isint_ok (P := P) (w := w) (base := base) T
  refine calD T.d_is_plain sc_isplain (fun vs H Q E h => ?_) (fun f cdv A outer s0 H vs Q E hr h => ?_)
  · obtain ⟨v, s, rfl, _⟩ := h
    rfl
  obtain ⟨v, s, rfl, h, q⟩ := h
  have hu := hu_of hr
  refine ⟨_, (pss_cons (ps_if (pt_cmpR op_eq (pv 1) pe_str (nomark _)) (pss_one (ps_ret (pe_c c_is_name hr (by omega) rfl (pa_cons (pv 0) pa_nil)))) pss_nil)
  (pss_cons (ps_if (pt_cmpR op_eq (pv 1) pe_str (nomark _)) (pss_one (ps_ret (pe_and (pe_c c_is_int hr (by omega) rfl (pa_cons (pv 0) pa_nil)) (pe_one (pe_cmpR op_le (pe_callB (id := "abs") call_abs (by rfl) T.z_abs (by decide +kernel) (pa_cons (pv 0) pa_nil)) (pe_gc rfl T.g_GREATEST_FACTOR) (nomark _)))))) pss_nil)
  (pss_one (ps_ret (pe_or (pe_c c_is_name hr (by omega) rfl (pa_cons (pv 0) pa_nil)) (pe_one (pe_and (pe_c c_is_int hr (by omega) rfl (pa_cons (pv 0) pa_nil)) (pe_one (pe_cmpR op_le (pe_callB (id := "abs") call_abs (by rfl) T.z_abs (by decide +kernel) (pa_cons (pv 0) pa_nil)) (pe_gc rfl T.g_GREATEST) (nomark _)))))))))), ?_⟩
  cases h with
  | @name x h =>
    refine ⟨_, rfl, rfl, _, rfl, iteT ?_⟩
    exact ⟨_, rfl, _, rfl, .inl ⟨x, rfl, h, fun H1 k1 => q H1 k1⟩⟩
  | @factor i h1 h2 =>
    refine ⟨_, rfl, rfl, _, rfl, iteF ?_⟩
    refine ⟨_, rfl, rfl, _, rfl, iteT ?_⟩
    refine ⟨_, rfl, _, _, rfl, ⟨.base (.int i), by simp [basics]⟩, _, rfl, iteT ?_⟩
    refine ⟨_, rfl, i, rfl, _, _, rfl, rfl, ?_⟩
    have e1 : decide ((if i < 0 then -i else i) ≤ 999) = true := decide_eq_true (by split <;> omega)
    show Q (.bl (decide ((if i < 0 then -i else i) ≤ 999))) H
    rw [e1]
    exact q H Kp.refl
  | @opn x h =>
    refine ⟨_, rfl, rfl, _, rfl, iteF ?_⟩
    refine ⟨_, rfl, rfl, _, rfl, iteF ?_⟩
    exact ⟨_, rfl, _, rfl, .inl ⟨x, rfl, h, fun H1 k1 => ⟨_, rfl, iteT (q H1 k1)⟩⟩⟩
  | @opi i h1 h2 =>
    refine ⟨_, rfl, rfl, _, rfl, iteF ?_⟩
    refine ⟨_, rfl, rfl, _, rfl, iteF ?_⟩
    refine ⟨_, rfl, _, rfl, .inr ⟨i, rfl, ⟨_, rfl, iteF ?_⟩⟩⟩
    refine ⟨_, rfl, _, _, rfl, ⟨.base (.int i), by simp [basics]⟩, _, rfl, iteT ?_⟩
    refine ⟨_, rfl, i, rfl, _, _, rfl, rfl, ?_⟩
    have e1 : decide ((if i < 0 then -i else i) ≤ 999999999) = true := decide_eq_true (by split <;> omega)
    show Q (.bl (decide ((if i < 0 then -i else i) ≤ 999999999))) H
    rw [e1]
    exact q H Kp.refl
end
end Sv
end
section
set_option Elab.async false
set_option linter.all false
set_option autoImplicit false
set_option maxRecDepth 100000
/-! W33: the table of forms; form_of. -/
namespace Sv
open PySem PySem.Spec PyProof.Rows L2
open C8 (pe_c pe_mt pe_mt0 pe_mk pe_gc)
/-- the module's table, in memory -/
structure FormsOk (P : Program) (w : World) (K : PySem.W.Frag) (mg : Str → Option Value) : Type where
  a : Addr
  gl : ∃ u, mg "FORMS" = some u ∧ RelV (.ref a) u
  ok : (a == sysModules) = false
  xs : List (List Str × Addr × Value)
  ep : Nat
  lk : K.lookup a = some { cls := .type "dict", dict := none, data := .dict (xs.map (entryOfKey (tupleKind (strKind P w)))).toArray ep }
  key : ∀ x ∈ xs, ∃ o items n, K.lookup x.2.1 = some o ∧ o.cls = .type "tuple" ∧ o.data = .seq items n ∧ ItemsAre (strKind P w) x.1 items.toList
  nod : (xs.map (·.1)).Nodup
  val : Paired (fun x (kf : List Str × List Str) => x.1 = kf.1 ∧ ∃ t, x.2.2 = .ref t ∧ ∀ H, SqT K H t (kf.2.map V.str)) xs formsT
section
variable {P : Program} {w : World} {K : PySem.W.Frag} {mg : Str → Option Value}
theorem paired_find {K : PySem.W.Frag} {k : List Str} {f : List Str} : ∀ {xs : List (List Str × Addr × Value)} {ft : List (List Str × List Str)}, Paired (fun x (kf : List Str × List Str) => x.1 = kf.1 ∧ ∃ t, x.2.2 = .ref t ∧ ∀ H, SqT K H t (kf.2.map V.str)) xs ft →
    (ft.find? fun z => decide (z.1 = k)).map (·.2) = some f → ∃ b t, atKey xs k = some (b, .ref t) ∧ ∀ H, SqT K H t (f.map V.str)
  | _, _, .nil, h => by cases h
  | x :: xs, kf :: ft, .cons e r, h => by
    obtain ⟨e1, t, e2, e3⟩ := e
    rw [List.find?_cons] at h
    unfold atKey
    rw [List.find?_cons]
    by_cases c : kf.1 = k
    · rw [decide_eq_true c] at h
      have hf : kf.2 = f := Option.some.inj h
      rw [decide_eq_true (e1.trans c)]
      refine ⟨x.2.1, t, ?_, ?_⟩
      · show some x.2 = _
        rw [← e2]
      · rw [← hf]
        exact e3
    · rw [decide_eq_false c] at h
      rw [decide_eq_false (fun z => c (e1.symm.trans z))]
      exact paired_find r h
theorem FormsOk.find (F : FormsOk P w K mg) {k f : List Str} (h : (formsT.find? fun z => decide (z.1 = k)).map (·.2) = some f) : ∃ b t, atKey F.xs k = some (b, .ref t) ∧ ∀ H, SqT K H t (f.map V.str) := paired_find F.val h
end
def formOf (s x : Str) : Option (List Str) := (formsT.find? fun z => decide (z.1 = [s, x])).map (·.2)
def tForms (K : PySem.W.Frag) (ty : TE) : TE := fun σ H Q => ty σ H fun y H2 => ∃ (p : Addr) (s x : Str) (f : List Str), y = .ref p ∧ SqT K H2 p [.str s, .str x] ∧ formOf s x = some f ∧ ∀ t, (∀ H, SqT K H t (f.map V.str)) → Q (.ref t) H2
section
variable {X : Cx} {e : Expr} {ty : TE} {p apos cpos : Pos}
theorem pe_forms (F : FormsOk X.prog X.w X.K X.mg) (hg : Gl X "FORMS") (he : PE X e ty) (m : M1 X (.Name "FORMS" p) "get" apos e cpos) (hu : X.A.units + 1 < cLine) : PE X (.Call (.Attribute (.Name "FORMS" p) "get" apos) [e] [] cpos) (tForms X.K ty) := by
  refine ⟨fun pins s σ H Q I h => ?_⟩
  obtain ⟨u, hm, ru⟩ := F.gl
  obtain rfl : u = Value.ref F.a := ru
  have dict : ∀ {s' : Shared}, X.K.In s'.heap → s'.heap.DictOfH (tupleKind (strKind X.prog X.w)) F.a F.xs := fun {s'} k =>
    ⟨_, _, _, k _ _ F.lk, ⟨rfl, rfl, rfl⟩, rfl, rfl, fun x hx => by
      obtain ⟨o, items, n, h1, h2, h3, h4⟩ := F.key x hx
      exact ⟨o, items, n, k _ _ h1, h2, h3, h4⟩, F.nod⟩
  refine wpAny_Call_method m.base m.few m.line PySem.F.plainAttrs_dict PySem.F.slot_dict_get PySem.F.type_dict_get (ld_glob I hg hm ?_ (by decide))
  refine ⟨(dict I.kIn).typeIs, fun b q => ?_, ?_⟩
  · cases q
    exact ⟨_, I.kIn _ _ F.lk, rfl⟩
  rw [m.trees]
  refine Calls.callWith_builtin rfl (Calls.evalArgs_plain (Calls.spliced_cons (thn (he.run pins _ σ H _ (I.tok _) h) fun iv s2 ⟨y, H2, I2, ry, p, s0, x, f, ey, hp, hf, q⟩ => Calls.spliced_nil ?_)))
  subst ey
  obtain rfl : iv = Value.ref p := ry
  obtain ⟨its, rv, ⟨o, ho, hc, n, hd⟩, hz⟩ := I2.tuple hp
  obtain ⟨b, t, hat, hS⟩ := F.find hf
  have hk : IsTupleKey (strKind X.prog X.w) s2.heap [s0, x] p := by
    refine ⟨o, _, n, ho, hc, hd, ?_⟩
    cases rv with
    | cons r1 rv =>
      cases rv with
      | cons r2 rv =>
        cases rv
        obtain ⟨t1, rfl⟩ := (show ∃ t, _ = Value.str s0 t from r1)
        obtain ⟨t2, rfl⟩ := (show ∃ t, _ = Value.str x t from r2)
        exact .cons (strKind_is X.prog X.w s0 t1) (.cons (strKind_is X.prog X.w x t2) .nil)
  refine call_meetsIn PySem.F.slot_dict_get (dict I2.kIn).typeIs PySem.F.entry_dict_get (PySem.F.args_dict_get_2 _ _) (meetsH_dict_get (tupleKind (strKind X.prog X.w)) F.a p F.ok) ⟨hu, [s0, x], F.xs, hk, dict I2.kIn, ?_⟩
  rw [hat]
  exact ⟨.ref t, H2, I2.tok _, rfl, q t hS⟩
end
def seqOf : PyData → Option (List PyData)
  | .list ds => some ds
  | .tuple ds => some ds
  | _ => none
theorem dp_seq {K : PySem.W.Frag} {H : Hp} {v : V} {d : PyData} {ds : List PyData} (h : Dp K H v d) (e : seqOf d = some ds) : ∃ a xs, v = .ref a ∧ SqE K H a xs ∧ DpAll K H xs ds ∧ isSeq (tyD d) = true := by
  cases d with
  | list es =>
    cases e
    obtain ⟨a, xs, rfl, hq, hA⟩ := dp_lst h
    exact ⟨a, xs, rfl, .inl hq, hA, rfl⟩
  | tuple es =>
    cases e
    obtain ⟨a, xs, rfl, hq, hA⟩ := dp_tup h
    exact ⟨a, xs, rfl, .inr hq, hA, rfl⟩
  | _ => cases e
theorem ixE {K : PySem.W.Frag} {H : Hp} {a : Addr} {xs : List V} {i : Int} {v : V} {Q : VK} (h : SqE K H a xs) (e : atI xs i = some v) (q : Q v H) : rIx K (.ref a) (.int i) H Q := by
  rcases h with h | h
  · exact .inl ⟨a, xs, i, v, rfl, rfl, h, e, q⟩
  · exact .inr (.inl ⟨a, xs, i, v, rfl, rfl, h, e, q⟩)
def spFormOf (K : PySem.W.Frag) : Sp := fun vs H Q _ => ∃ (v : V) (s x : Str) (f : List Str) (d : PyData) (ds : List PyData), vs = [v, .str s] ∧ Dp K H v d ∧ seqOf d = some (.str x :: ds) ∧ formOf s x = some f ∧ f.length = ds.length ∧
  ∀ t H', (∀ H, SqT K H t (f.map V.str)) → Kp [] H H' → Q (.ref t) H'
theorem sc_formof : FnScope ["part", "sort", "form"] ["part", "sort"] (C8.fnScope (topS 48)) := C8.fnScope_by (by decide +kernel)
section
variable {P : Program} {w : World} {K : PySem.W.Frag} {mg : Str → Option Value} {base : Heap}
theorem formof_ok (T : Txt K mg) (Te : Txe K mg T) (Fo : FormsOk P w K mg) : C8.Cal P w K mg base 2 "form_of" (spFormOf K) [] := by
  have nd := sc_formof.nd
  have c_is_row := isrow_ok (P := P) (w := w) (base := base) T Te
  refine calD T.d_form_of sc_formof (fun vs H Q E h => ?_) (fun f cdv A outer s0 H vs Q E hr h => ?_)
  · obtain ⟨v, s, x, f, d, ds, rfl, _⟩ := h
    rfl
  obtain ⟨v, s, x, f, d, ds, rfl, hd, hsq, hf, hfl, q⟩ := h
  have hu := hu_of hr
  refine ⟨_, (pss_cons (ps_if (PW.pt (pw_or (pt_not (pt_val (pe_c c_is_row hr (by omega) rfl (pa_cons (pv 0) pa_nil)))) (pw_or (pt_cmpR op_eq (pe_callB (id := "len") call_len_seq (by rfl) T.z_len PySem.boot_len (pa_cons (pv 0) pa_nil)) pe_int (nomark _)) (pw_or1 (pt_not (pt_val (pe_callB (id := "isinstance") call_isi (by rfl) T.z_isinstance (by decide +kernel) (pa_cons (pe_ixc ix_seq (pv 0)) (pa_cons (pe_bltn (v := .ty "str") rfl T.z_str (by decide +kernel) rfl) pa_nil))))))))) (pss_one (ps_ret pe_non)) pss_nil)
  (pss_cons (ps_asg (pe_forms Fo rfl (pe_tup (pa_cons (pv 1) (pa_cons (pe_ixc ix_seq (pv 0)) pa_nil))) ⟨rfl, rfl, rfl, rfl⟩ hu) (pg_name (i := 2) nd rfl (Or.inl rfl)))
  (pss_one (ps_ret (pe_ifExp (PW.pt (pw_and (pt_cmpR op_notN (pv 2) pe_non (nomark _)) (pw_and1 (pt_cmpR op_eq (pe_callB (id := "len") call_len_seq (by rfl) T.z_len PySem.boot_len (pa_cons (pv 2) pa_nil)) (pe_op op_sub (pe_callB (id := "len") call_len_seq (by rfl) T.z_len PySem.boot_len (pa_cons (pv 0) pa_nil)) pe_int) (nomark _))))) (pv 2) pe_non))))), ?_⟩
  obtain ⟨a, xs, rfl, hq, hA, hty⟩ := dp_seq hd hsq
  obtain ⟨x0, ys, rfl, hx0, hA1⟩ := dpA_cons hA
  cases dp_str hx0
  have yl := dpA_len hA1
  refine ⟨_, rfl, _, rfl, .inl ⟨_, dp_ty hd, fun H1 k1 => ⟨_, rfl, ?_⟩⟩⟩
  rw [hty]
  refine iteF ?_
  have hq1 := hq.kp k1 FreeS.nil
  have no : ¬ V.int (((V.str x :: ys).length : Nat) : Int) = V.int 0 := fun z => by
    have := V.int.inj z
    rw [List.length_cons] at this
    omega
  refine ⟨_, rfl, a, _, rfl, hq1, rfl, _, rfl, ?_⟩
  refine ite2 (fun z => absurd (of_decide_eq_true z) no) (fun _ => ?_)
  refine ⟨_, rfl, ixE hq1 (atI_nat (j := 0) rfl) ?_⟩
  refine ⟨_, _, _, _, true, rfl, ClsV.ty _, TyX.base (.str x), kit_ty (b := "str") (by decide +kernel), _, rfl, iteF ?_⟩
  refine ⟨_, rfl, _, rfl, ixE hq1 (atI_nat (j := 0) rfl) ⟨(by show 2 ≤ sizeLine; decide), fun p hp => ⟨p, s, x, f, rfl, SqT.of upd_same, hf, fun t ht => ?_⟩⟩⟩
  have k2 := k1.trans (Kp.new (o := .tup [.str s, .str x]) hp)
  have hq2 := hq.kp k2 FreeS.nil
  refine ⟨_, rfl, rfl, _, rfl, iteT ?_⟩
  refine ⟨_, rfl, t, _, rfl, .inr (ht _), _, rfl, a, _, rfl, hq2, _, _, rfl, rfl, rfl, _, rfl, ?_⟩
  have e1 : decide (V.int ((f.map V.str).length : Nat) = V.int ((((V.str x :: ys).length : Nat) : Int) - 1)) = true := decide_eq_true (by rw [List.length_map, List.length_cons, hfl, yl, Int.natCast_succ, Int.add_sub_cancel])
  refine ite2 (fun _ => ?_) (fun z => absurd e1 z)
  exact ⟨_, rfl, q t _ ht k2⟩
end
end Sv
end
section
set_option Elab.async false
set_option linter.all false
set_option autoImplicit false
set_option maxRecDepth 100000
/-! W34: check_block, check_part. -/
namespace Sv
open PySem PySem.Spec PyProof.Rows L2
open C8 (pe_c pe_mt pe_mt0 pe_mk pe_gc)
/-- a statement that is never come to -/
theorem ps_never {X : Cx} {st : Stmt} : PS X st (fun _ _ _ => False) := ⟨fun _ _ _ _ _ _ h => h.elim⟩
/-- a part of a program, lists or tuples at all depths: in a loop or not, its sort -/
inductive PartOk : Bool → Str → PyData → Prop
  | name {l : Bool} {x : Str} (h : nameB x = true) : PartOk l "name" (.str x)
  | factor {l : Bool} {i : Int} (h1 : -999 ≤ i) (h2 : i ≤ 999) : PartOk l "factor" (.int i)
  | opn {l : Bool} {x : Str} (h : nameB x = true) : PartOk l "operand" (.str x)
  | opi {l : Bool} {i : Int} (h1 : -999 ≤ i) (h2 : i ≤ 999) : PartOk l "operand" (.int i)
  | part {l : Bool} {s x : Str} {d : PyData} {ds : List PyData} {f : List Str} (hs : s = "statement" ∨ s = "value" ∨ s = "condition") (hq : seqOf d = some (.str x :: ds)) (hf : formOf s x = some f) (hl : f.length = ds.length)
      (hb : s = "statement" → x = "break" ∨ x = "next" → l = true) (hi : ∀ (i : Nat) (e : PyData) (t : Str), ds[i]? = some e → f[i]? = some t → PartOk (l || (decide (x = "while") || decide (x = "loop"))) t e) : PartOk l s d
  | block {l : Bool} {d : PyData} {ds : List PyData} (hq : seqOf d = some ds) (hi : ∀ e ∈ ds, PartOk l "statement" e) : PartOk l "block" d
theorem PartOk.plain {l : Bool} {s : Str} {d : PyData} {v : V} {K : PySem.W.Frag} {H : Hp} (h : PartOk l s d) (hd : Dp K H v d) (n1 : s ≠ "statement") (n2 : s ≠ "value") (n3 : s ≠ "condition") (n4 : s ≠ "block") : PlainOk s v := by
  cases h with
  | name h => cases dp_str hd; exact .name h
  | factor h1 h2 => cases dp_int hd; exact .factor h1 h2
  | opn h => cases dp_str hd; exact .opn h
  | opi h1 h2 => cases dp_int hd; exact .opi h1 h2
  | part hs =>
    rcases hs with h | h | h
    · exact (n1 h).elim
    · exact (n2 h).elim
    · exact (n3 h).elim
  | block => exact (n4 rfl).elim
theorem inV_strs (s : Str) : ∀ l : List Str, inV (.str s) (l.map V.str) = decide (s ∈ l)
  | [] => rfl
  | x :: l => by
    have ih := inV_strs s l
    unfold inV at *
    rw [List.map_cons, List.any_cons, ih]
    have e : eqV (.str x) (.str s) = decide (x = s) := by
      show (x == s) = decide (x = s)
      rw [Bool.eq_iff_iff, beq_iff_eq, decide_eq_true_eq]
    rw [e, Bool.eq_iff_iff, Bool.or_eq_true, decide_eq_true_eq, decide_eq_true_eq, decide_eq_true_eq, List.mem_cons]
    exact ⟨fun h => h.elim (fun z => .inl z.symm) .inr, fun h => h.elim (fun z => .inl z.symm) .inr⟩
theorem sle_from {K : PySem.W.Frag} {H : Hp} {a : Addr} {xs : List V} {Q : VK} (k : Nat) (h : SqE K H a xs) (q : ∀ b H', SqE K H' b (xs.drop k) → Kp [] H H' → Q (.ref b) H') : rSlL K (.ref a) (some (k : Nat)) none H Q ∨ rSlA K (.ref a) (some (k : Nat)) none H Q := by
  rcases h with h | h
  · refine .inl ⟨a, xs, rfl, h, fun p hp => ?_⟩
    rw [cutV_from]
    exact q p _ (.inl (SqL.of upd_same)) (Kp.new hp)
  · refine .inr ⟨a, xs, rfl, h, fun e => ?_, fun _ p hp => ?_⟩
    · rw [sIx_nat] at e
      have e1 : xs.drop k = xs := by
        by_cases c : k = 0
        · rw [c]; rfl
        · have : xs = [] := List.eq_nil_of_length_eq_zero (by omega)
          rw [this]; exact List.drop_nil
      exact q a H (by rw [e1]; exact .inr h) Kp.refl
    · rw [cutV_from]
      exact q p _ (.inr (SqT.of upd_same)) (Kp.new hp)
theorem for_zipE {K : PySem.W.Frag} {a b : Addr} {xs ys : List V} {g : TG} {tb : TS} {D : Ends} {σ : L2.St} {H H0 : Hp} (h : SqE K H0 a xs) (hb : SqT K H0 b ys) (hl : xs.length = ys.length) (Pv : Nat → L2.St → Hp → Prop) (h0 : Pv 0 σ H) (hc : ∀ i σ' H', Pv i σ' H' → Kp [] H0 H')
    (hs : ∀ (i : Nat) (x y : V) (T : Addr) (σ : L2.St) (H : Hp), xs[i]? = some x → ys[i]? = some y → Pv i σ H → H T = none → g (.ref T) σ (upd H T (.tup [x, y])) fun σ2 H2 => tb { D with nx := Pv (i + 1), ct := Pv (i + 1), bk := D.nx } σ2 H2) (hd : ∀ σ H, Pv xs.length σ H → D.nx σ H) :
    (SqL K H a xs ∧ SqT K H b ys ∧ ∃ W : Nat → Nat → L2.St → Hp → Prop, (∃ m, W 0 m σ H) ∧ ∀ i m σ H, W i m σ H →
      ((ItzM K a b).stop i H ∧ D.nx σ H) ∨ ((ItzM K a b).go i H ∧ ∃ N : L2.St → Hp → Prop, (∀ σ' H', N σ' H' → ∃ m', m' < m ∧ W (i + 1) m' σ' H') ∧ ∀ v H', (ItzM K a b).yld i H v H' → g v σ H' fun σ2 H2 => tb { D with nx := N, ct := N, bk := D.nx } σ2 H2)) ∨
    (SqT K H a xs ∧ SqT K H b ys ∧ ∃ W : Nat → Nat → L2.St → Hp → Prop, (∃ m, W 0 m σ H) ∧ ∀ i m σ H, W i m σ H →
      ((RZ.ItzT K a b).stop i H ∧ D.nx σ H) ∨ ((RZ.ItzT K a b).go i H ∧ ∃ N : L2.St → Hp → Prop, (∀ σ' H', N σ' H' → ∃ m', m' < m ∧ W (i + 1) m' σ' H') ∧ ∀ v H', (RZ.ItzT K a b).yld i H v H' → g v σ H' fun σ2 H2 => tb { D with nx := N, ct := N, bk := D.nx } σ2 H2)) := by
  have kb := (hc _ _ _ h0).sqT FreeS.nil.t hb
  rcases h with h | h
  · exact .inl ⟨(hc _ _ _ h0).sqL FreeS.nil h, kb, for_zipM hl Pv h0 (fun i σ' H' p => ⟨(hc i σ' H' p).sqL FreeS.nil h, (hc i σ' H' p).sqT FreeS.nil.t hb⟩) hs hd⟩
  · exact .inr ⟨(hc _ _ _ h0).sqT FreeS.nil.t h, kb, RZ.for_zipT hl Pv h0 (fun i σ' H' p => ⟨(hc i σ' H' p).sqT FreeS.nil.t h, (hc i σ' H' p).sqT FreeS.nil.t hb⟩) hs hd⟩
def spCB (K : PySem.W.Frag) (n : Nat) : Sp := fun vs H Q _ => ∃ (v : V) (l : Bool) (d : PyData), vs = [v, .bl l] ∧ Dp K H v d ∧ PartOk l "block" d ∧ d.depth < n ∧ ∀ H', Kp [] H H' → Q .non H'
def spCP (K : PySem.W.Frag) (n : Nat) : Sp := fun vs H Q _ => ∃ (v : V) (s : Str) (l : Bool) (d : PyData), vs = [v, .str s, .bl l] ∧ Dp K H v d ∧ PartOk l s d ∧ d.depth < n ∧ ∀ H', Kp [] H H' → Q .non H'
theorem sc_cb : FnScope ["block", "looped", "statement"] ["block", "looped"] (C8.fnScope (topS 49)) := C8.fnScope_by (by decide +kernel)
theorem sc_cp : FnScope ["part", "sort", "looped", "form", "item", "inner"] ["part", "sort", "looped"] (C8.fnScope (topS 50)) := C8.fnScope_by (by decide +kernel)
theorem seq_depth {d : PyData} {ds : List PyData} (h : seqOf d = some ds) : ∀ e ∈ ds, e.depth < d.depth := by
  cases d with
  | list es =>
    cases h
    intro e he
    have := depthA_mem e he
    rw [PyData.depth]
    omega
  | tuple es =>
    cases h
    intro e he
    have := depthA_mem e he
    rw [PyData.depth]
    omega
  | _ => cases h
section
variable {P : Program} {w : World} {K : PySem.W.Frag} {mg : Str → Option Value} {base : Heap}
theorem cb_step (T : Txt K mg) (Te : Txe K mg T) (n : Nat) (c_check_part : C8.Cal P w K mg base (4 + 2 * n) "check_part" (spCP K n) []) : C8.Cal P w K mg base (4 + 2 * n + 1) "check_block" (spCB K (n + 1)) [] := by
  have nd := sc_cb.nd
  have c_is_row := isrow_ok (P := P) (w := w) (base := base) T Te
  refine calD T.d_check_block sc_cb (fun vs H Q E h => ?_) (fun f cdv A outer s0 H vs Q E hr h => ?_)
  · obtain ⟨v, l, d, rfl, _⟩ := h
    rfl
  obtain ⟨v, l, d, rfl, hd, hok, hdep, q⟩ := h
  have hu := hu_of hr
  refine ⟨_, (pss_cons (ps_if (pt_not (pt_val (pe_c c_is_row hr (by omega) rfl (pa_cons (pv 0) pa_nil)))) (pss_one ps_never) pss_nil)
  (pss_one (ps_for PassesOwn.never rfl (pi_seq (pv 0)) (pg_name (i := 2) nd rfl (Or.inl rfl))
    (pss_one (ps_expr (pe_c c_check_part hr (by omega) rfl (pa_cons (pv 2) (pa_cons pe_str (pa_cons (pv 1) pa_nil))))))))), ?_⟩
  have hb : ∃ ds, seqOf d = some ds ∧ ∀ e ∈ ds, PartOk l "statement" e := by
    cases hok with
    | part hs =>
      rcases hs with h | h | h
      · exact absurd h (by decide)
      · exact absurd h (by decide)
      · exact absurd h (by decide)
    | block hq hi => exact ⟨_, hq, hi⟩
  obtain ⟨ds, hsq, hi⟩ := hb
  obtain ⟨a, xs, rfl, hq, hA, hty⟩ := dp_seq hd hsq
  have xl := dpA_len hA
  refine ⟨_, rfl, _, rfl, .inl ⟨_, dp_ty hd, fun H1 k1 => ⟨_, rfl, ?_⟩⟩⟩
  rw [hty]
  refine iteF ?_
  refine ⟨_, rfl, a, rfl, ?_⟩
  refine for_seqE (xs := xs) hq (fun i σ H' => ∃ v2, σ = [some (.ref a), some (.bl l), v2] ∧ Kp [] H H') ⟨_, rfl, k1⟩ (fun i σ' H' h => by
    obtain ⟨_, _, kk⟩ := h
    exact kk.car FreeS.nil) ?_ ?_
  · rintro i x _ H2 hx ⟨v2, rfl, k2⟩
    obtain ⟨e, he, hdx⟩ := dpA_at' (k2.dpA FreeS.nil hA) hx
    have em := List.mem_of_getElem? he
    have ed := seq_depth hsq e em
    refine ⟨_, rfl, _, rfl, x, "statement", l, e, rfl, hdx, hi e em, by omega, fun H3 k3 => ⟨_, rfl, k2.trans k3⟩⟩
  · rintro _ H2 ⟨v2, rfl, k2⟩
    exact q H2 k2
theorem cp_step (T : Txt K mg) (Te : Txe K mg T) (Fo : FormsOk P w K mg) (n : Nat) (c_check_block : C8.Cal P w K mg base (4 + 2 * n + 1) "check_block" (spCB K (n + 1)) []) (c_check_part : C8.Cal P w K mg base (4 + 2 * n) "check_part" (spCP K n) []) : C8.Cal P w K mg base (4 + 2 * n + 2) "check_part" (spCP K (n + 1)) [] := by
  have nd := sc_cp.nd
  have c_form_of := formof_ok (P := P) (w := w) (base := base) T Te Fo
  have c_is_plain := isplain_ok (P := P) (w := w) (base := base) T
  refine calD T.d_check_part sc_cp (fun vs H Q E h => ?_) (fun f cdv A outer s0 H vs Q E hr h => ?_)
  · obtain ⟨v, s, l, d, rfl, _⟩ := h
    rfl
  obtain ⟨v, s, l, d, rfl, hd, hok, hdep, q⟩ := h
  have hu := hu_of hr
  refine ⟨_, (pss_one (ps_if (pt_cmpR op_eq (pv 1) pe_str (nomark _)) (pss_one (ps_expr (pe_c c_check_block hr (by omega) rfl (pa_cons (pv 0) (pa_cons (pv 2) pa_nil))))) (pss_one (ps_if (pt_cmpR op_in_seq (pv 1) (pe_tup (pa_cons pe_str (pa_cons pe_str (pa_cons pe_str pa_nil)))) (by rfl)) (pss_cons (ps_asg (pe_c c_form_of hr (by omega) rfl (pa_cons (pv 0) (pa_cons (pv 1) pa_nil))) (pg_name (i := 3) nd rfl (Or.inl rfl)))
  (pss_cons (ps_if (pt_mid (PW.pt (pw_or (pt_cmpR op_isN (pv 3) pe_non (nomark _)) (pw_or1 (PW.pt (pw_and (pt_cmpR op_eq (pv 1) pe_str (nomark _)) (pw_and (pt_cmpR op_in_seq (pe_ixc ix_seq (pv 0)) (pe_tup (pa_cons pe_str (pa_cons pe_str pa_nil))) (by rfl)) (pw_and1 (pt_not (pt_val (pv 2))))))))))) (pss_one ps_never) pss_nil)
  (pss_one (ps_for PassesOwn.never rfl (pi_zipM rfl T.z_zip (pa_cons (pe_slF_any (pv 0) pe_int) (pa_cons (pv 3) pa_nil))) (pg_tup rfl (pgs_cons (pg_name (i := 4) nd rfl (Or.inl rfl)) (pgs_cons (pg_name (i := 5) nd rfl (Or.inl rfl)) pgs_nil)))
    (pss_one (ps_expr (pe_c c_check_part hr (by omega) rfl (pa_cons (pv 4) (pa_cons (pv 5) (pa_cons (pe_or (pv 2) (pe_one (pe_cmpR op_in_seq (pe_ixc ix_seq (pv 0)) (pe_gc rfl T.g_LOOPS) (by rfl)))) pa_nil)))))))))) (pss_one (ps_if (pt_not (pt_val (pe_c c_is_plain hr (by omega) rfl (pa_cons (pv 0) (pa_cons (pv 1) pa_nil))))) (pss_one ps_never) pss_nil)))))), ?_⟩
  have plain : s ≠ "statement" → s ≠ "value" → s ≠ "condition" → s ≠ "block" → PlainOk s v := hok.plain hd
  have go : (∃ (x : Str) (ds : List PyData) (f : List Str), (s = "statement" ∨ s = "value" ∨ s = "condition") ∧ seqOf d = some (.str x :: ds) ∧ formOf s x = some f ∧ f.length = ds.length ∧ (s = "statement" → x = "break" ∨ x = "next" → l = true) ∧
      ∀ (i : Nat) (e : PyData) (t : Str), ds[i]? = some e → f[i]? = some t → PartOk (l || (decide (x = "while") || decide (x = "loop"))) t e) ∨ (s = "block" ∧ PartOk l "block" d) ∨ (s ≠ "statement" ∧ s ≠ "value" ∧ s ≠ "condition" ∧ s ≠ "block") := by
    cases hok with
    | name => exact .inr (.inr (by decide))
    | factor => exact .inr (.inr (by decide))
    | opn => exact .inr (.inr (by decide))
    | opi => exact .inr (.inr (by decide))
    | @part _ _ x _ ds f hs hq hf hl hb hi => exact .inl ⟨x, ds, f, hs, hq, hf, hl, hb, hi⟩
    | block hq hi => exact .inr (.inl ⟨rfl, .block hq hi⟩)
  rcases go with ⟨x, ds, fm, hs, hsq, hf, hfl, hb, hi⟩ | ⟨rfl, hbl⟩ | ⟨n1, n2, n3, n4⟩
  · have e4 : ¬ V.str s = V.str "block" := fun z => by
      have := V.str.inj z
      rcases hs with rfl | rfl | rfl <;> exact absurd this (by decide)
    obtain ⟨a, xs, rfl, hq, hA, hty⟩ := dp_seq hd hsq
    obtain ⟨x0, ys, rfl, hx0, hA1⟩ := dpA_cons hA
    cases dp_str hx0
    have yl := dpA_len hA1
    refine ⟨_, rfl, rfl, _, rfl, ?_⟩
    refine ite2 (fun z => absurd (of_decide_eq_true z) e4) (fun _ => ?_)
    refine ⟨_, rfl, (by show 3 ≤ sizeLine; decide), fun t ht => ⟨t, _, rfl, .inr (SqT.of upd_same), rfl, rfl, _, rfl, ?_⟩⟩
    have hin : inV (V.str s) [V.str "statement", V.str "value", V.str "condition"] = true := by
      rw [show [V.str "statement", V.str "value", V.str "condition"] = (["statement", "value", "condition"] : List Str).map V.str from rfl, inV_strs]
      exact decide_eq_true (by rcases hs with rfl | rfl | rfl <;> decide)
    rw [hin]
    refine iteT ?_
    have k1 : Kp [] H (upd H t (.tup [.str "statement", .str "value", .str "condition"])) := Kp.new ht
    generalize upd H t (.tup [.str "statement", .str "value", .str "condition"]) = H1 at k1 ⊢
    refine ⟨_, rfl, _, rfl, .ref a, s, x, fm, d, ds, rfl, k1.dp FreeS.nil hd, hsq, hf, hfl, fun t2 H2 ht2 k2 => ?_⟩
    have k02 := k1.trans k2
    refine ⟨fun b H' => b = false ∧ Kp [] H H', ?_, ?_⟩
    · refine ⟨_, rfl, rfl, _, rfl, iteF ?_⟩
      refine ⟨_, rfl, rfl, _, rfl, ?_⟩
      refine ite2 (fun c => ?_) (fun _ => ⟨rfl, k02⟩)
      have hs1 : s = "statement" := V.str.inj (of_decide_eq_true c)
      refine ⟨_, rfl, ixE (hq.kp k02 FreeS.nil) (atI_nat (j := 0) rfl) ⟨(by show 2 ≤ sizeLine; decide), fun t3 ht3 => ⟨t3, _, rfl, .inr (SqT.of upd_same), rfl, rfl, _, rfl, ?_⟩⟩⟩
      have ein : inV (V.str x) [V.str "break", V.str "next"] = decide (x ∈ (["break", "next"] : List Str)) := inV_strs x ["break", "next"]
      rw [ein]
      refine ite2 (fun c2 => ?_) (fun _ => ⟨rfl, k02.trans (Kp.new ht3)⟩)
      have hl1 := hb hs1 (by simpa using of_decide_eq_true c2)
      subst hl1
      exact ⟨_, rfl, _, rfl, rfl, k02.trans (Kp.new ht3)⟩
    · rintro _ H3 ⟨rfl, k3⟩
      refine iteF ?_
      have hq3 := hq.kp k3 FreeS.nil
      refine ⟨_, rfl, (1 : Nat), rfl, sle_from 1 hq3 fun b H4 hb4 k4 => ?_⟩
      have k04 := k3.trans k4
      refine ⟨_, rfl, b, t2, ys, fm.map V.str, rfl, ?_⟩
      refine for_zipE hb4 (ht2 H4) (by rw [List.length_map]; omega) (fun i σ H' => ∃ v4 v5, σ = [some (.ref a), some (.str s), some (.bl l), some (.ref t2), v4, v5] ∧ Kp [] H4 H') ⟨_, _, rfl, Kp.refl⟩ (fun i σ' H' h => by
        obtain ⟨_, _, _, kk⟩ := h
        exact kk) ?_ ?_
      · rintro i y z T1 _ H5 hy hz ⟨v4, v5, rfl, k5⟩ hT
        have kT : Kp [] H4 (upd H5 T1 (.tup [y, z])) := k5.trans (Kp.new hT)
        have k07 := k04.trans kT
        refine ⟨T1, _, rfl, SqT.of upd_same, rfl, _, _, rfl, _, _, rfl, rfl, ?_⟩
        generalize upd H5 T1 (.tup [y, z]) = H7 at *
        obtain ⟨e, he, hdx⟩ := dpA_at' (k07.dpA FreeS.nil hA1) hy
        rw [List.getElem?_map] at hz
        obtain ⟨tt, htt, rfl⟩ := Option.map_eq_some_iff.mp hz
        have ok1 := hi i e tt he htt
        have em := seq_depth hsq e (List.mem_cons_of_mem _ (List.mem_of_getElem? he))
        refine ⟨_, rfl, _, rfl, _, rfl, l, rfl, ?_⟩
        cases l with
        | true => exact iteT ⟨y, tt, true, e, rfl, hdx, ok1, by omega, fun H8 k8 => ⟨_, _, rfl, kT.trans k8⟩⟩
        | false =>
          refine iteF ?_
          refine ⟨_, rfl, ixE (hq.kp k07 FreeS.nil) (atI_nat (j := 0) rfl) ⟨_, _, rfl, .inr (T.t_LOOPS H7), rfl, rfl, ?_⟩⟩
          have ein : inV (V.str x) ((["while", "loop"] : List Str).map V.str) = (false || (decide (x = "while") || decide (x = "loop"))) := by
            rw [inV_strs, Bool.false_or, Bool.eq_iff_iff, Bool.or_eq_true, decide_eq_true_eq, decide_eq_true_eq, decide_eq_true_eq]
            simp
          rw [ein]
          exact ⟨y, tt, _, e, rfl, hdx, ok1, by omega, fun H8 k8 => ⟨_, _, rfl, kT.trans k8⟩⟩
      · rintro _ H5 ⟨v4, v5, rfl, k5⟩
        exact q H5 (k04.trans k5)
  · exact ⟨_, rfl, rfl, _, rfl, iteT ⟨_, rfl, _, rfl, v, l, d, rfl, hd, hbl, hdep, q⟩⟩
  · have e4 : ¬ V.str s = V.str "block" := fun z => n4 (V.str.inj z)
    refine ⟨_, rfl, rfl, _, rfl, ?_⟩
    refine ite2 (fun z => absurd (of_decide_eq_true z) e4) (fun _ => ?_)
    refine ⟨_, rfl, (by show 3 ≤ sizeLine; decide), fun t ht => ⟨t, _, rfl, .inr (SqT.of upd_same), rfl, rfl, _, rfl, ?_⟩⟩
    have hin : inV (V.str s) [V.str "statement", V.str "value", V.str "condition"] = false := by
      rw [show [V.str "statement", V.str "value", V.str "condition"] = (["statement", "value", "condition"] : List Str).map V.str from rfl, inV_strs]
      refine decide_eq_false fun z => ?_
      simp only [List.mem_cons, List.not_mem_nil, or_false] at z
      rcases z with z | z | z
      · exact n1 z
      · exact n2 z
      · exact n3 z
    rw [hin]
    refine iteF ?_
    exact ⟨_, rfl, _, rfl, v, s, rfl, plain n1 n2 n3 n4, fun H1 k1 => ⟨_, rfl, iteF (q H1 ((Kp.new ht).trans k1))⟩⟩
theorem chk_ok (T : Txt K mg) (Te : Txe K mg T) (Fo : FormsOk P w K mg) : ∀ n, C8.Cal P w K mg base (4 + 2 * n) "check_part" (spCP K n) []
  | 0 => calVac T.d_check_part fun vs H Q E h => by
    obtain ⟨v, s, l, d, _, _, _, hd, _⟩ := h
    exact absurd hd (Nat.not_lt_zero _)
  | n + 1 => cp_step T Te Fo n (cb_step T Te n (chk_ok T Te Fo n)) (chk_ok T Te Fo n)
theorem chkb_ok (T : Txt K mg) (Te : Txe K mg T) (Fo : FormsOk P w K mg) (n : Nat) : C8.Cal P w K mg base (4 + 2 * n + 1) "check_block" (spCB K (n + 1)) [] := cb_step T Te n (chk_ok T Te Fo n)
end
end Sv
end
section
set_option Elab.async false
set_option linter.all false
set_option autoImplicit false
set_option maxRecDepth 100000
/-! W35: blocks_of, statements_in. -/
namespace Sv
open PySem PySem.Spec PyProof.Rows L2
open C8 (pe_c pe_mt pe_mt0 pe_mk pe_gc)
mutual
/-- the statements within a statement, at all depths -/
def Stm.subs : Stm → List Stm
  | .ifs _ b1 b2 => b1.all ++ b2.all
  | .while _ b => b.all
  | .loop b => b.all
  | .set _ _ => []
  | .give _ => []
  | .skip => []
  | .brk => []
  | .nxt => []
def Blk.all : Blk → List Stm
  | .nil => []
  | .cons s b => s :: (s.subs ++ b.all)
end
theorem subs_blks (s : Stm) : s.subs = (s.blks.map Blk.all).flatten := by
  cases s <;> simp [Stm.subs, Stm.blks]
theorem all_toL : ∀ b : Blk, b.all = (b.toL.map fun s => s :: s.subs).flatten
  | .nil => by rw [Blk.all]; rfl
  | .cons s b => by
    rw [Blk.all, all_toL b]
    rfl
mutual
theorem subs_size : ∀ s : Stm, s.subs.length + 1 = s.size
  | .ifs c b1 b2 => by rw [Stm.subs, Stm.size, List.length_append, all_size b1, all_size b2]
  | .while c b => by rw [Stm.subs, Stm.size, all_size b]
  | .loop b => by rw [Stm.subs, Stm.size, all_size b]
  | .set _ _ => by rw [Stm.subs, Stm.size]; rfl
  | .give _ => by rw [Stm.subs, Stm.size]; rfl
  | .skip => by rw [Stm.subs, Stm.size]; rfl
  | .brk => by rw [Stm.subs, Stm.size]; rfl
  | .nxt => by rw [Stm.subs, Stm.size]; rfl
theorem all_size : ∀ b : Blk, b.all.length = b.size
  | .nil => by rw [Blk.all, Blk.size]; rfl
  | .cons s b => by
    have h1 := subs_size s
    have h2 := all_size b
    rw [Blk.all, Blk.size, List.length_cons, List.length_append]
    omega
end
/-- the condition of a statement -/
def Stm.cond : Stm → Option Cnd
  | .ifs c _ _ => some c
  | .while c _ => some c
  | _ => none
mutual
theorem subs_ok {N : List Str} : ∀ (s : Stm) (l : Bool), s.ok N l → ∀ t ∈ s.subs, ∃ m, t.ok N m
  | .ifs c b1 b2, l, h, t, ht => by
    rw [Stm.ok] at h
    rw [Stm.subs] at ht
    rcases List.mem_append.mp ht with z | z
    · exact all_ok b1 l h.2.2.1 t z
    · exact all_ok b2 l h.2.2.2 t z
  | .while c b, l, h, t, ht => by
    rw [Stm.ok] at h
    rw [Stm.subs] at ht
    exact all_ok b true h.2.2 t ht
  | .loop b, l, h, t, ht => by
    rw [Stm.ok] at h
    rw [Stm.subs] at ht
    exact all_ok b true h t ht
  | .set _ _, l, h, t, ht => by rw [Stm.subs] at ht; cases ht
  | .give _, l, h, t, ht => by rw [Stm.subs] at ht; cases ht
  | .skip, l, h, t, ht => by rw [Stm.subs] at ht; cases ht
  | .brk, l, h, t, ht => by rw [Stm.subs] at ht; cases ht
  | .nxt, l, h, t, ht => by rw [Stm.subs] at ht; cases ht
theorem all_ok {N : List Str} : ∀ (b : Blk) (l : Bool), b.ok N l → ∀ t ∈ b.all, ∃ m, t.ok N m
  | .nil, l, h, t, ht => by rw [Blk.all] at ht; cases ht
  | .cons s b, l, h, t, ht => by
    rw [Blk.ok] at h
    rw [Blk.all] at ht
    rcases List.mem_cons.mp ht with rfl | z
    · exact ⟨l, h.1⟩
    · rcases List.mem_append.mp z with z | z
      · exact subs_ok s l h.1 t z
      · exact all_ok b l h.2 t z
end
theorem stcond_ok {N : List Str} {s : Stm} {m : Bool} {c : Cnd} (h : s.ok N m) (e : s.cond = some c) : c.ok N ∧ c.parts ≤ 5 := by
  cases s with
  | ifs c' b1 b2 => cases e; rw [Stm.ok] at h; exact ⟨h.1, h.2.1⟩
  | «while» c' b => cases e; rw [Stm.ok] at h; exact ⟨h.1, h.2.1⟩
  | _ => cases e
def spBlocksOf (K : PySem.W.Frag) : Sp := fun vs H Q _ => ∃ (v : V) (s : Stm), vs = [v] ∧ Dp K H v s.enc ∧ ∀ v' H', Dp K H' v' (.tuple (s.blks.map Blk.enc)) → Kp [] H H' → Q v' H'
def spStsIn (K : PySem.W.Frag) (n : Nat) : Sp := fun vs H Q _ => ∃ (v : V) (b : Blk), vs = [v] ∧ Dp K H v b.enc ∧ b.dp < n ∧ b.size ≤ 1000 ∧ ∀ (l : Addr) (xs : List V) H', H l = none → H' l = some (.lst xs) → DpAll K H' xs (b.all.map Stm.enc) → Kp [] H H' → Q (.ref l) H'
theorem sc_bof : FnScope ["statement"] ["statement"] (C8.fnScope (topS 51)) := C8.fnScope_by (by decide +kernel)
theorem sc_sin : FnScope ["block", "found", "statement", "inner"] ["block"] (C8.fnScope (topS 52)) := C8.fnScope_by (by decide +kernel)
section
variable {P : Program} {w : World} {K : PySem.W.Frag} {mg : Str → Option Value} {base : Heap}
theorem bof_ok (T : Txt K mg) : C8.Cal P w K mg base 1 "blocks_of" (spBlocksOf K) [] := by
  have nd := sc_bof.nd
  refine calD T.d_blocks_of sc_bof (fun vs H Q E h => ?_) (fun f cdv A outer s0 H vs Q E hr h => ?_)
  · obtain ⟨v, s, rfl, _⟩ := h
    rfl
  obtain ⟨v, st, rfl, hd, q⟩ := h
  have hu := hu_of hr
  refine ⟨_, (pss_cons (ps_if (pt_cmpR op_in_seq (pe_ixc ix_tup (pv 0)) (pe_tup (pa_cons pe_str (pa_cons pe_str pa_nil))) (by rfl)) (pss_one (ps_ret (pe_slF_tup (pv 0) pe_int))) pss_nil)
  (pss_one (ps_ret (pe_ifExp (pt_cmpR op_eq (pe_ixc ix_tup (pv 0)) pe_str (nomark _)) (pe_slF_tup (pv 0) pe_int) (pe_tup pa_nil))))), ?_⟩
  refine ⟨_, rfl, ?_⟩
  cases st with
  | ifs c b1 b2 =>
    rw [Stm.enc] at hd
    refine ixd (i := 0) hd rfl fun w hw => ?_
    cases dp_str hw
    refine ⟨(by show 2 ≤ sizeLine; decide), fun t ht => ?_⟩
    refine ⟨t, _, rfl, .inr (SqT.of upd_same), rfl, rfl, _, rfl, iteT ?_⟩
    refine ⟨_, rfl, _, rfl, ?_⟩
    exact sla_from 2 ((Kp.new (M := []) ht).dp FreeS.nil hd) fun v' H' h1 k => q v' H' h1 ((Kp.new ht).trans k)
  | «while» c b1 =>
    rw [Stm.enc] at hd
    refine ixd (i := 0) hd rfl fun w hw => ?_
    cases dp_str hw
    refine ⟨(by show 2 ≤ sizeLine; decide), fun t ht => ?_⟩
    refine ⟨t, _, rfl, .inr (SqT.of upd_same), rfl, rfl, _, rfl, iteT ?_⟩
    refine ⟨_, rfl, _, rfl, ?_⟩
    exact sla_from 2 ((Kp.new (M := []) ht).dp FreeS.nil hd) fun v' H' h1 k => q v' H' h1 ((Kp.new ht).trans k)
  | loop b1 =>
    rw [Stm.enc] at hd
    refine ixd (i := 0) hd rfl fun w hw => ?_
    cases dp_str hw
    refine ⟨(by show 2 ≤ sizeLine; decide), fun t ht => ?_⟩
    refine ⟨t, _, rfl, .inr (SqT.of upd_same), rfl, rfl, _, rfl, iteF ?_⟩
    have hd1 := (Kp.new (M := []) (o := .tup [.str "if", .str "while"]) ht).dp FreeS.nil hd
    refine ⟨_, rfl, ?_⟩
    refine ixd (i := 0) hd1 rfl fun w hw => ?_
    cases dp_str hw
    refine ⟨rfl, _, rfl, iteT ?_⟩
    refine ⟨_, rfl, _, rfl, ?_⟩
    exact sla_from 1 hd1 fun v' H' h1 k => q v' H' h1 ((Kp.new ht).trans k)
  | _ =>
    rw [Stm.enc] at hd
    refine ixd (i := 0) hd rfl fun w hw => ?_
    cases dp_str hw
    refine ⟨(by show 2 ≤ sizeLine; decide), fun t ht => ?_⟩
    refine ⟨t, _, rfl, .inr (SqT.of upd_same), rfl, rfl, _, rfl, iteF ?_⟩
    have hd1 := (Kp.new (M := []) (o := .tup [.str "if", .str "while"]) ht).dp FreeS.nil hd
    refine ⟨_, rfl, ?_⟩
    refine ixd (i := 0) hd1 rfl fun w hw => ?_
    cases dp_str hw
    refine ⟨rfl, _, rfl, iteF ?_⟩
    refine ⟨(by show 0 ≤ sizeLine; decide), fun u hu1 => q _ _ (dp_new upd_same .nil) ((Kp.new ht).trans (Kp.new hu1))⟩
theorem encs_tu (l : List Stm) : tuA (l.map Stm.enc) = true := tuA_all fun d hd => by
  obtain ⟨s, _, rfl⟩ := List.mem_map.mp hd
  exact s.tu
theorem flat_take {l : List (List Stm)} (i : Nat) : (l.take i).flatten.length ≤ l.flatten.length := by
  have e : l.flatten = (l.take i).flatten ++ (l.drop i).flatten := by rw [← List.flatten_append, List.take_append_drop]
  rw [e, List.length_append]
  omega
theorem sin_step (T : Txt K mg) (n : Nat) (c_statements_in : C8.Cal P w K mg base (1 + n) "statements_in" (spStsIn K n) []) : C8.Cal P w K mg base (1 + n + 1) "statements_in" (spStsIn K (n + 1)) [] := by
  have nd := sc_sin.nd
  have c_blocks_of := bof_ok (P := P) (w := w) (base := base) T
  refine calD T.d_statements_in sc_sin (fun vs H Q E h => ?_) (fun f cdv A outer s0 H vs Q E hr h => ?_)
  · obtain ⟨v, b, rfl, _⟩ := h
    rfl
  obtain ⟨v, b, rfl, hd, hdp, hsz, q⟩ := h
  have hu := hu_of hr
  refine ⟨_, (pss_cons (ps_asg (pe_lst pa_nil) (pg_name (i := 1) nd rfl (Or.inl rfl)))
  (pss_cons (ps_for PassesOwn.never rfl (pi_tup (pv 0)) (pg_name (i := 2) nd rfl (Or.inl rfl))
    (pss_cons (ps_expr (pe_bm PySem.F.plainAttrs_list PySem.F.slot_list_append PySem.F.type_list_append mt_append (pv 1) (pa_cons (pv 2) pa_nil)))
  (pss_one (ps_for PassesOwn.never rfl (pi_tup (pe_c c_blocks_of hr (by omega) rfl (pa_cons (pv 2) pa_nil))) (pg_name (i := 3) nd rfl (Or.inl rfl))
    (pss_one (ps_expr (pe_bm PySem.F.plainAttrs_list PySem.F.slot_list_extend PySem.F.type_list_extend mt_extend (pv 1) (pa_cons (pe_c c_statements_in hr (by omega) rfl (pa_cons (pv 3) pa_nil)) pa_nil))))))))
  (pss_one (ps_ret (pv 1))))), ?_⟩
  obtain ⟨a, xs, rfl, hS, hA⟩ := dp_blk hd
  have xl := dpA_len hA
  rw [List.length_map] at xl
  have hal := all_toL b
  have has := all_size b
  refine ⟨(by show 0 ≤ sizeLine; decide), fun F hF => ?_⟩
  have k0 : Kp [] H (upd H F (.lst [])) := Kp.new hF
  refine ⟨_, rfl, a, rfl, ⟨xs, k0.sqT FreeS.nil.t hS⟩, ?_⟩
  refine for_tup (xs := xs) (fun i σ H' => ∃ v2 v3 ys, σ = [some (.ref a), some (.ref F), v2, v3] ∧ Kp [] H H' ∧ H' F = some (.lst ys) ∧ DpAll K H' ys ((((b.toL.map fun s => s :: s.subs).take i).flatten).map Stm.enc))
    ⟨_, _, [], rfl, k0, upd_same, .nil⟩ (fun i σ H' _ ⟨_, _, _, _, k, _⟩ => k.sqT FreeS.nil.t hS) ?_ ?_
  · rintro i x _ H1 hx ⟨v2, v3, ys, rfl, k1, F1, hE⟩
    obtain ⟨st, hst, hdx⟩ := dpA_map (k1.dpA FreeS.nil hA) hx
    have hm : st ∈ b.toL := List.mem_of_getElem? hst
    have hsd := toL_dp hm
    have ylen := dpA_len hE
    rw [List.length_map] at ylen
    have fl1 := flat_take (l := b.toL.map fun s => s :: s.subs) i
    rw [← hal] at fl1
    have eT : (((b.toL.map fun s => s :: s.subs).take (i + 1)).flatten) = (((b.toL.map fun s => s :: s.subs).take i).flatten) ++ (st :: (st.blks.map Blk.all).flatten) := by
      rw [List.take_add_one, List.getElem?_map, hst, List.flatten_append, ← subs_blks]
      show _ ++ ([st :: st.subs] : List (List Stm)).flatten = _
      simp
    have fl2 := flat_take (l := b.toL.map fun s => s :: s.subs) (i + 1)
    rw [← hal, eT, List.length_append, List.length_cons] at fl2
    generalize ((b.toL.map fun s => s :: s.subs).take i).flatten = pre at *
    -- append
    refine ⟨_, rfl, .inl ⟨rfl, _, SqL.of F1⟩, ?_⟩
    refine ⟨_, rfl, F, ys, _, rfl, rfl, F1, sm' (by omega), ?_⟩
    have k2 : Kp [F] H1 (upd H1 F (.lst (ys ++ [x]))) := Kp.put (by simp)
    have f1 : FreeT [F] H1 := fun b hb => by rw [List.mem_singleton] at hb; rw [hb, F1]; rfl
    have F2 : (upd H1 F (.lst (ys ++ [x]))) F = some (.lst (ys ++ [x])) := upd_same
    have hE2 : DpAll K (upd H1 F (.lst (ys ++ [x]))) (ys ++ [x]) ((pre ++ [st]).map Stm.enc) := by
      rw [List.map_append]
      exact k2.dpTA f1 (by rw [← List.map_append]; exact encs_tu (pre ++ [st])) (dpA_app hE (.cons hdx .nil))
    have hdx2 := k2.dpT f1 st.tu hdx
    have out : ∀ {H'}, Kp [F] H1 H' → Kp [] H H' := fun kk y o hy1 hy2 => kk y o (by simpa using ne_of_none hy2 hF) (k1 y o hy1 hy2)
    have k02 := out k2
    show (fun H2 : Hp => _) (upd H1 F (.lst (ys ++ [x])))
    generalize upd H1 F (.lst (ys ++ [x])) = H2 at *
    refine ⟨_, rfl, x, st, rfl, hdx2, fun v3' H3 hv3 k3 => ?_⟩
    obtain ⟨a3, zs, rfl, hS3, hA3⟩ := dp_tup hv3
    have zl := dpA_len hA3
    rw [List.length_map] at zl
    refine ⟨a3, rfl, ⟨zs, hS3⟩, ?_⟩
    have k03 := k02.trans k3
    refine for_tup (xs := zs) (fun j σ H' => ∃ v3 ys2, σ = [some (.ref a), some (.ref F), some x, v3] ∧ Kp [] H H' ∧ Kp [F] H3 H' ∧ H' F = some (.lst ys2) ∧ DpAll K H' ys2 ((pre ++ (st :: ((st.blks.map Blk.all).take j).flatten)).map Stm.enc))
      ⟨_, _, rfl, k03, Kp.refl, k3.at F2 (by simp), k3.dpA FreeS.nil hE2⟩ (fun j σ H' _ ⟨_, _, _, _, k, _⟩ => k.sqT (fun b hb => by rw [List.mem_singleton] at hb; rw [hb, k3.at F2 (by simp)]; rfl) hS3) ?_ ?_
    · rintro j y _ H4 hy ⟨v3', ys2, rfl, k4, k34, F4, hE4⟩
      have f3 : FreeT [F] H3 := fun b hb => by rw [List.mem_singleton] at hb; rw [hb, k3.at F2 (by simp)]; rfl
      obtain ⟨b1, hb1, hdb⟩ := dpA_map (k34.dpTA f3 (tuA_all fun d hd => by
        obtain ⟨b2, _, rfl⟩ := List.mem_map.mp hd
        exact b2.tu) hA3) hy
      have b1d := blks_dp (List.mem_of_getElem? hb1)
      have hj : (st.blks.map Blk.all)[j]? = some b1.all := by rw [List.getElem?_map, hb1]; rfl
      have e3 : ((st.blks.map Blk.all).take (j + 1)).flatten = ((st.blks.map Blk.all).take j).flatten ++ b1.all := by
        rw [List.take_add_one, hj, List.flatten_append]
        simp
      have fl3 := flat_take (l := st.blks.map Blk.all) (j + 1)
      rw [e3, List.length_append] at fl3
      have ylen2 := dpA_len hE4
      rw [List.length_map, List.length_append, List.length_cons] at ylen2
      have b1s := all_size b1
      generalize ((st.blks.map Blk.all).take j).flatten = pre2 at *
      refine ⟨_, rfl, .inl ⟨rfl, _, SqL.of F4⟩, ?_⟩
      refine ⟨_, rfl, y, b1, rfl, hdb, by omega, by omega, fun l ws H5 hl hlw hW k5 => ?_⟩
      have F5 := k5.at F4 (by simp)
      have wl := dpA_len hW
      rw [List.length_map] at wl
      refine ⟨F, l, ys2, ws, rfl, rfl, F5, hlw, sm (by omega), ?_⟩
      have k6 : Kp [F] H5 (upd H5 F (.lst (ys2 ++ ws))) := Kp.put (by simp)
      have f5 : FreeT [F] H5 := fun b hb => by rw [List.mem_singleton] at hb; rw [hb, F5]; rfl
      have k46 : Kp [F] H4 (upd H5 F (.lst (ys2 ++ ws))) := k5.all.trans k6
      refine ⟨_, ys2 ++ ws, rfl, fun u o hu1 hu2 => k46 u o (by simpa using ne_of_none hu2 hF) (k4 u o hu1 hu2), k34.trans k46, upd_same, ?_⟩
      rw [e3, ← List.cons_append, ← List.append_assoc, List.map_append]
      exact k6.dpTA f5 (by rw [← List.map_append]; exact encs_tu _) (dpA_app (k5.dpA FreeS.nil hE4) hW)
    · rintro _ H4 ⟨v3', ys2, rfl, k4, k34, F4, hE4⟩
      rw [List.take_of_length_le (by rw [List.length_map]; omega)] at hE4
      exact ⟨_, _, ys2, rfl, k4, F4, by rw [eT]; exact hE4⟩
  · rintro _ H1 ⟨v2, v3, ys, rfl, k1, F1, hE⟩
    rw [List.take_of_length_le (by rw [List.length_map]; omega), ← hal] at hE
    exact ⟨_, rfl, q F ys H1 hF F1 hE k1⟩
theorem sin_ok (T : Txt K mg) : ∀ n, C8.Cal P w K mg base (1 + n) "statements_in" (spStsIn K n) []
  | 0 => calVac T.d_statements_in fun vs H Q E h => by
    obtain ⟨v, b, _, _, hd, _⟩ := h
    exact absurd hd (Nat.not_lt_zero _)
  | n + 1 => sin_step T n (sin_ok T n)
end
end Sv
end
section
set_option Elab.async false
set_option linter.all false
set_option autoImplicit false
set_option maxRecDepth 100000
/-! W36: parts_in. -/
namespace Sv
open PySem PySem.Spec PyProof.Rows L2
open C8 (pe_c pe_mt pe_mt0 pe_mk pe_gc)
/-- the words of a condition's parts -/
def Cnd.words : Cnd → List Str
  | .pair p => [p.k.word]
  | .not c => "not" :: c.words
  | .bin k c d => bw k :: (c.words ++ d.words)
def Cnd.head : Cnd → Str
  | .pair p => p.k.word
  | .not _ => "not"
  | .bin k _ _ => bw k
/-- an item of a condition behind its word -/
inductive Ci where
  | op (a : Opd)
  | cn (c : Cnd)
def Ci.enc : Ci → PyData
  | .op a => a.enc
  | .cn c => c.enc
def Ci.words : Ci → List Str
  | .op _ => []
  | .cn c => c.words
def Cnd.items : Cnd → List Ci
  | .pair p => [.op p.a, .op p.b]
  | .not c => [.cn c]
  | .bin _ c d => [.cn c, .cn d]
theorem Cnd.enc_items (c : Cnd) : c.enc = .tuple (.str c.head :: c.items.map Ci.enc) := by
  cases c <;> simp [Cnd.enc, Cnd.head, Cnd.items, Ci.enc, Pair.enc]
theorem Cnd.words_items (c : Cnd) : c.words = c.head :: (c.items.map Ci.words).flatten := by
  cases c <;> simp [Cnd.words, Cnd.head, Cnd.items, Ci.words]
theorem Cnd.words_len : ∀ c : Cnd, c.words.length = c.parts
  | .pair _ => rfl
  | .not c => by rw [Cnd.words, Cnd.parts, List.length_cons, c.words_len]
  | .bin k c d => by rw [Cnd.words, Cnd.parts, List.length_cons, List.length_append, c.words_len, d.words_len]
theorem item_dp {c d : Cnd} (h : Ci.cn d ∈ c.items) : d.dp < c.dp := by
  cases c <;> simp only [Cnd.items, List.mem_cons, List.not_mem_nil, or_false, Ci.cn.injEq, reduceCtorEq, false_or] at h
  · rw [Cnd.dp, h]; omega
  · rw [Cnd.dp]; rcases h with rfl | rfl <;> omega
theorem flat_takeG {α : Type} {l : List (List α)} (i : Nat) : (l.take i).flatten.length ≤ l.flatten.length := by
  have e : l.flatten = (l.take i).flatten ++ (l.drop i).flatten := by rw [← List.flatten_append, List.take_append_drop]
  rw [e, List.length_append]
  omega
theorem items_len (c : Cnd) : c.items.length ≤ 2 := by
  cases c <;> simp [Cnd.items]
def spPartsIn (K : PySem.W.Frag) (n : Nat) : Sp := fun vs H Q _ => ∃ (v : V) (c : Cnd), vs = [v] ∧ Dp K H v c.enc ∧ c.dp < n ∧ c.parts ≤ 1000 ∧ ∀ (l : Addr) H', H l = none → H' l = some (.lst (c.words.map V.str)) → Kp [] H H' → Q (.ref l) H'
theorem sc_pin : FnScope ["condition", "found", "item"] ["condition"] (C8.fnScope (topS 53)) := C8.fnScope_by (by decide +kernel)
section
variable {P : Program} {w : World} {K : PySem.W.Frag} {mg : Str → Option Value} {base : Heap}
theorem pin_step (T : Txt K mg) (n : Nat) (c_parts_in : C8.Cal P w K mg base n "parts_in" (spPartsIn K n) []) : C8.Cal P w K mg base (n + 1) "parts_in" (spPartsIn K (n + 1)) [] := by
  have nd := sc_pin.nd
  refine calD T.d_parts_in sc_pin (fun vs H Q E h => ?_) (fun f cdv A outer s0 H vs Q E hr h => ?_)
  · obtain ⟨v, c, rfl, _⟩ := h
    rfl
  obtain ⟨v, c, rfl, hd, hdp, hsz, q⟩ := h
  have hu := hu_of hr
  refine ⟨_, (pss_cons (ps_asg (pe_lst (pa_cons (pe_ixc ix_tup (pv 0)) pa_nil)) (pg_name (i := 1) nd rfl (Or.inl rfl)))
  (pss_cons (ps_for PassesOwn.never rfl (pi_tup (pe_slF_tup (pv 0) pe_int)) (pg_name (i := 2) nd rfl (Or.inl rfl))
    (pss_one (ps_if (pt_val (pe_callB (id := "isinstance") call_isi (by rfl) T.z_isinstance (by decide +kernel) (pa_cons (pv 2) (pa_cons (pe_bltn (v := .ty "tuple") rfl T.z_tuple (by decide +kernel) rfl) pa_nil)))) (pss_one (ps_expr (pe_bm PySem.F.plainAttrs_list PySem.F.slot_list_extend PySem.F.type_list_extend mt_extend (pv 1) (pa_cons (pe_c c_parts_in hr (by omega) rfl (pa_cons (pv 2) pa_nil)) pa_nil)))) pss_nil)))
  (pss_one (ps_ret (pv 1))))), ?_⟩
  have hd0 := hd
  rw [Cnd.enc_items] at hd
  have hwd := c.words_items
  have hwl := c.words_len
  refine ⟨_, rfl, ?_⟩
  refine ixd (i := 0) hd rfl fun w hw => ?_
  cases dp_str hw
  refine ⟨(by show 1 ≤ sizeLine; decide), fun F hF => ?_⟩
  have k0 : Kp [] H (upd H F (.lst [.str c.head])) := Kp.new hF
  refine ⟨_, rfl, _, rfl, ?_⟩
  refine sla_from 1 (k0.dp FreeS.nil hd) fun v1 H1 hv1 k1 => ?_
  change Dp K H1 v1 (.tuple (c.items.map Ci.enc)) at hv1
  obtain ⟨a1, xs, rfl, hS, hA⟩ := dp_tup hv1
  have xl := dpA_len hA
  rw [List.length_map] at xl
  have F1 := k1.at (show (upd H F (.lst [.str c.head])) F = some (.lst [.str c.head]) from upd_same) (by simp)
  have k01 := k0.trans k1
  refine ⟨a1, rfl, ⟨xs, hS⟩, ?_⟩
  refine for_tup (xs := xs) (fun i σ H' => ∃ v2, σ = [some v, some (.ref F), v2] ∧ Kp [] H H' ∧ Kp [F] H1 H' ∧ H' F = some (.lst ((c.head :: ((c.items.map Ci.words).take i).flatten).map V.str)))
    ⟨_, rfl, k01, Kp.refl, F1⟩ (fun i σ H' _ ⟨_, _, _, k, _⟩ => k.sqT (fun b hb => by rw [List.mem_singleton] at hb; rw [hb, F1]; rfl) hS) ?_ ?_
  · rintro i x _ H2 hx ⟨v2, rfl, k2, k12, F2⟩
    have f1 : FreeT [F] H1 := fun b hb => by rw [List.mem_singleton] at hb; rw [hb, F1]; rfl
    have tuI : tuA (c.items.map Ci.enc) = true := tuA_all fun d hd => by
      obtain ⟨ci, _, rfl⟩ := List.mem_map.mp hd
      cases ci with
      | op a => exact a.tu
      | cn d => exact d.tu
    obtain ⟨ci, hci, hdx⟩ := dpA_map (k12.dpTA f1 tuI hA) hx
    have cm := List.mem_of_getElem? hci
    have fl := flat_takeG (l := c.items.map Ci.words) (i + 1)
    have hwl2 : (c.head :: (c.items.map Ci.words).flatten).length = c.parts := by rw [← hwd]; exact hwl
    rw [List.length_cons] at hwl2
    have e1 : ((c.items.map Ci.words).take (i + 1)).flatten = ((c.items.map Ci.words).take i).flatten ++ ci.words := by
      rw [List.take_add_one, List.getElem?_map, hci, List.flatten_append]
      simp
    rw [e1, List.length_append] at fl
    rw [e1]
    generalize ((c.items.map Ci.words).take i).flatten = pre at *
    cases ci with
    | op a =>
      have hT : TyN K H2 x (tyD a.enc) := dp_ty hdx
      have e2 : decide (tyD a.enc = "tuple") = false := by cases a <;> rfl
      refine ⟨_, rfl, _, _, _, _, _, rfl, ClsV.ty _, hT.1, kit_ty (kit_tup _ hT.2), _, rfl, ?_⟩
      rw [e2]
      refine iteF ⟨_, rfl, k2, k12, ?_⟩
      show H2 F = some (.lst ((c.head :: (pre ++ [])).map V.str))
      rw [List.append_nil]
      exact F2
    | cn d =>
      have hT : TyN K H2 x (tyD d.enc) := dp_ty hdx
      have e2 : decide (tyD d.enc = "tuple") = true := by rw [Cnd.enc_items]; rfl
      have ddp := item_dp cm
      have dl := d.words_len
      have fl' : pre.length + d.words.length ≤ (c.items.map Ci.words).flatten.length := fl
      refine ⟨_, rfl, _, _, _, _, _, rfl, ClsV.ty _, hT.1, kit_ty (kit_tup _ hT.2), _, rfl, ?_⟩
      rw [e2]
      refine iteT ?_
      refine ⟨_, rfl, .inl ⟨rfl, _, SqL.of F2⟩, ?_⟩
      refine ⟨_, rfl, x, d, rfl, hdx, by omega, by omega, fun l H3 hl hlw k3 => ?_⟩
      refine ⟨F, l, _, _, rfl, rfl, k3.at F2 (by simp), hlw, sm (by rw [List.length_map, List.length_map, List.length_cons]; omega), ?_⟩
      have k4 : Kp [F] H2 (upd H3 F (.lst ((c.head :: pre).map V.str ++ d.words.map V.str))) := k3.all.trans (Kp.put (by simp))
      refine ⟨_, rfl, fun u o hu1 hu2 => k4 u o (by simpa using ne_of_none hu2 hF) (k2 u o hu1 hu2), k12.trans k4, ?_⟩
      show (upd H3 F _) F = some (.lst ((c.head :: (pre ++ d.words)).map V.str))
      rw [upd_same, ← List.map_append]
      rfl
  · rintro _ H2 ⟨v2, rfl, k2, k12, F2⟩
    rw [List.take_of_length_le (by rw [List.length_map]; omega), ← hwd] at F2
    exact ⟨_, rfl, q F H2 hF F2 k2⟩
theorem pin_ok (T : Txt K mg) : ∀ n, C8.Cal P w K mg base n "parts_in" (spPartsIn K n) []
  | 0 => calVac T.d_parts_in fun vs H Q E h => by
    obtain ⟨v, b, _, _, hd, _⟩ := h
    exact absurd hd (Nat.not_lt_zero _)
  | n + 1 => pin_step T n (pin_ok T n)
end
end Sv
end
section
set_option Elab.async false
set_option linter.all false
set_option autoImplicit false
set_option maxRecDepth 100000
/-! W37: the names of a program. -/
namespace Sv
open PySem PySem.Spec PyProof.Rows L2
open C8 (pe_c pe_mt pe_mt0 pe_mk pe_gc)
/-- the items behind the word -/
def itemsB : List PyData → List PyData
  | .str _ :: ds => ds
  | ds => ds
/-- data whose texts behind words are names of N -/
inductive MIt (N : List Str) : PyData → Prop
  | str {x : Str} (h : x ∈ N) : MIt N (.str x)
  | int {i : Int} : MIt N (.int i)
  | tup {ds : List PyData} (h : ∀ e ∈ itemsB ds, MIt N e) : MIt N (.tuple ds)
mutual
/-- how many atoms -/
def cnt : PyData → Nat
  | .tuple ds => cntA ds
  | .list _ => 1
  | .dict _ => 1
  | .none => 1
  | .bool _ => 1
  | .int _ => 1
  | .str _ => 1
def cntA : List PyData → Nat
  | [] => 0
  | d :: ds => cnt d + cntA ds
end
theorem cntA_app : ∀ a b : List PyData, cntA (a ++ b) = cntA a + cntA b
  | [], b => by rw [cntA, List.nil_append, Nat.zero_add]
  | d :: a, b => by rw [List.cons_append, cntA, cntA, cntA_app a b, Nat.add_assoc]
theorem cntA_take (ds : List PyData) {i : Nat} {d : PyData} (h : ds[i]? = some d) : cntA (ds.take (i + 1)) = cntA (ds.take i) + cnt d := by
  rw [List.take_add_one, h, cntA_app]
  show _ + cntA [d] = _
  rw [cntA, cntA, Nat.add_zero]
theorem cntA_le : ∀ (ds : List PyData) (i : Nat), cntA (ds.take i) ≤ cntA ds
  | ds, 0 => by rw [List.take_zero, cntA]; exact Nat.zero_le _
  | [], i + 1 => Nat.le_refl _
  | d :: ds, i + 1 => by
    have := cntA_le ds i
    rw [List.take_succ_cons, cntA, cntA]
    omega
theorem cntA_itemsB (ds : List PyData) : cntA (itemsB ds) ≤ cntA ds := by
  unfold itemsB
  split
  · rw [cntA]; omega
  · exact Nat.le_refl _
theorem itemsB_mem {ds : List PyData} {e : PyData} (h : e ∈ itemsB ds) : e ∈ ds := by
  unfold itemsB at h
  split at h
  · exact List.mem_cons_of_mem _ h
  · exact h
def uniqStep (acc : List Str) (x : Str) : List Str := if x ∈ acc then acc else acc ++ [x]
/-- the unlike ones, in their order -/
def uniq (l : List Str) : List Str := l.foldl uniqStep []
theorem uniq_snoc (l : List Str) (x : Str) : uniq (l ++ [x]) = uniqStep (uniq l) x := by unfold uniq; rw [List.foldl_append]; rfl
theorem snoc_ind {p : List Str → Prop} (h0 : p []) (hs : ∀ l x, p l → p (l ++ [x])) (l : List Str) : p l := by
  have key : ∀ n (l : List Str), l.length = n → p l := by
    intro n
    induction n with
    | zero => intro l hl; rw [List.eq_nil_of_length_eq_zero hl]; exact h0
    | succ n ih =>
      intro l hl
      have hne : l ≠ [] := fun z => by rw [z] at hl; cases hl
      rw [← List.dropLast_concat_getLast hne]
      exact hs _ _ (ih _ (by rw [List.length_dropLast]; omega))
  exact key _ l rfl
theorem uniq_mem (l : List Str) : ∀ x, x ∈ uniq l ↔ x ∈ l := by
  refine snoc_ind (p := fun l => ∀ x, x ∈ uniq l ↔ x ∈ l) (fun x => Iff.rfl) (fun l y ih x => ?_) l
  rw [uniq_snoc]
  unfold uniqStep
  split
  · rename_i h
    rw [ih, List.mem_append, List.mem_singleton]
    exact ⟨.inl, fun z => z.elim id fun e => by rw [e]; exact (ih y).mp h⟩
  · rw [List.mem_append, List.mem_append, ih]
theorem uniq_nodup (l : List Str) : (uniq l).Nodup := by
  refine snoc_ind (p := fun l => (uniq l).Nodup) List.nodup_nil (fun l y ih => ?_) l
  rw [uniq_snoc]
  unfold uniqStep
  split
  · exact ih
  · rename_i h
    rw [List.nodup_append]
    exact ⟨ih, by simp, fun a ha b hb e => by rw [List.mem_singleton] at hb; exact h (by rw [← hb, ← e]; exact ha)⟩
theorem uniq_len (l : List Str) : (uniq l).length ≤ l.length := by
  refine snoc_ind (p := fun l => (uniq l).length ≤ l.length) (Nat.le_refl _) (fun l y ih => ?_) l
  rw [uniq_snoc, List.length_append, List.length_singleton]
  unfold uniqStep
  split
  · omega
  · rw [List.length_append, List.length_singleton]; omega
theorem uniq_of_nodup {l : List Str} (h : l.Nodup) : uniq l = l := by
  have key : ∀ l : List Str, l.Nodup → uniq l = l := fun l => snoc_ind (p := fun l => l.Nodup → uniq l = l) (fun _ => rfl) (fun l y ih hn => by
    rw [List.nodup_append] at hn
    rw [uniq_snoc, ih hn.1]
    unfold uniqStep
    rw [if_neg (fun z => hn.2.2 y z y (List.mem_singleton.mpr rfl) rfl)]) l
  exact key l h
theorem len_sub : ∀ {l N : List Str}, l.Nodup → (∀ x ∈ l, x ∈ N) → l.length ≤ N.length
  | [], N, _, _ => Nat.zero_le _
  | x :: l, N, hn, hs => by
    rw [List.nodup_cons] at hn
    have hx := hs x List.mem_cons_self
    have ih := len_sub (l := l) (N := N.erase x) hn.2 fun y hy => (List.mem_erase_of_ne fun z => hn.1 (by rw [← z]; exact hy)).mpr (hs y (List.mem_cons_of_mem _ hy))
    have e := List.length_erase_of_mem hx
    have := List.length_pos_of_mem hx
    rw [List.length_cons]
    omega
def spItemsB (K : PySem.W.Frag) : Sp := fun vs H Q _ => ∃ (v : V) (ds : List PyData), vs = [v] ∧ Dp K H v (.tuple ds) ∧ ∀ v' H', Dp K H' v' (.tuple (itemsB ds)) → Kp [] H H' → Q v' H'
def spMent (K : PySem.W.Frag) (N : List Str) (n : Nat) : Sp := fun vs H Q _ => ∃ (v : V) (d : PyData), vs = [v] ∧ Dp K H v d ∧ tu d = true ∧ MIt N d ∧ (∃ ds, d = .tuple ds) ∧ d.depth < n ∧ cnt d ≤ 50000 ∧
  ∀ (l : Addr) (ss : List Str) H', H l = none → H' l = some (.lst (ss.map V.str)) → (∀ x ∈ ss, x ∈ N) → ss.length ≤ cnt d → Kp [] H H' → Q (.ref l) H'
def spUniq (K : PySem.W.Frag) : Sp := fun vs H Q _ => ∃ (a : Addr) (ss : List Str), vs = [.ref a] ∧ SqE K H a (ss.map V.str) ∧ ss.length ≤ 90000 ∧ ∀ (t : Addr) H', H' t = some (.tup ((uniq ss).map V.str)) → Kp [] H H' → Q (.ref t) H'
theorem sc_itb : FnScope ["part"] ["part"] (C8.fnScope (topS 54)) := C8.fnScope_by (by decide +kernel)
theorem sc_ment : FnScope ["part", "found", "item"] ["part"] (C8.fnScope (topS 55)) := C8.fnScope_by (by decide +kernel)
theorem sc_uniq : FnScope ["names", "found", "name"] ["names"] (C8.fnScope (topS 56)) := C8.fnScope_by (by decide +kernel)
section
variable {P : Program} {w : World} {K : PySem.W.Frag} {mg : Str → Option Value} {base : Heap}
theorem itb_ok (T : Txt K mg) : C8.Cal P w K mg base 1 "items_behind" (spItemsB K) [] := by
  have nd := sc_itb.nd
  refine calD T.d_items_behind sc_itb (fun vs H Q E h => ?_) (fun f cdv A outer s0 H vs Q E hr h => ?_)
  · obtain ⟨v, ds, rfl, _⟩ := h
    rfl
  obtain ⟨v, ds, rfl, hd, q⟩ := h
  have hu := hu_of hr
  refine ⟨_, (pss_one (ps_ret (pe_ifExp (PW.pt (pw_and (pt_cmpR op_gt (pe_callB (id := "len") call_len_seq (by rfl) T.z_len PySem.boot_len (pa_cons (pv 0) pa_nil)) pe_int (nomark _)) (pw_and1 (pt_val (pe_callB (id := "isinstance") call_isi (by rfl) T.z_isinstance (by decide +kernel) (pa_cons (pe_ixc ix_tup (pv 0)) (pa_cons (pe_bltn (v := .ty "str") rfl T.z_str (by decide +kernel) rfl) pa_nil))))))) (pe_slF_tup (pv 0) pe_int) (pv 0)))), ?_⟩
  obtain ⟨a, xs, rfl, hS, hA⟩ := dp_tup hd
  have xl := dpA_len hA
  refine ⟨_, rfl, a, xs, rfl, .inr hS, _, _, rfl, rfl, _, rfl, ?_⟩
  cases ds with
  | nil =>
    have : xs = [] := List.eq_nil_of_length_eq_zero (by rw [xl]; rfl)
    subst this
    exact iteF (iteF ⟨_, rfl, q _ _ hd Kp.refl⟩)
  | cons d ds =>
    obtain ⟨x0, ys, rfl, hx0, hA1⟩ := dpA_cons hA
    have pos : decide (((x0 :: ys).length : Int) > 0) = true := decide_eq_true (by rw [List.length_cons]; omega)
    have hT := dp_ty hx0
    refine ite2 (fun _ => ?_) (fun z => absurd pos z)
    refine ⟨_, rfl, a, _, _, x0, rfl, rfl, hS, atI_nat (j := 0) rfl, ?_⟩
    refine ⟨_, _, _, _, _, rfl, ClsV.ty _, hT.1, kit_ty (kit_str _ hT.2), _, rfl, ?_⟩
    cases d with
    | str y =>
      refine iteT ?_
      refine ⟨_, rfl, _, rfl, ?_⟩
      exact sla_from 1 hd fun v' H' h1 k => q v' H' h1 k
    | _ => exact iteF ⟨_, rfl, q _ _ hd Kp.refl⟩
theorem ment_step (T : Txt K mg) (N : List Str) (n : Nat) (c_mentioned : C8.Cal P w K mg base (1 + n) "mentioned" (spMent K N n) []) : C8.Cal P w K mg base (1 + n + 1) "mentioned" (spMent K N (n + 1)) [] := by
  have nd := sc_ment.nd
  have c_items_behind := itb_ok (P := P) (w := w) (base := base) T
  refine calD T.d_mentioned sc_ment (fun vs H Q E h => ?_) (fun f cdv A outer s0 H vs Q E hr h => ?_)
  · obtain ⟨v, d, rfl, _⟩ := h
    rfl
  obtain ⟨v, d, rfl, hd, htu, hM, ⟨ds, rfl⟩, hdp, hcn, q⟩ := h
  have hu := hu_of hr
  refine ⟨_, (pss_cons (ps_asg (pe_lst pa_nil) (pg_name (i := 1) nd rfl (Or.inl rfl)))
  (pss_cons (ps_for PassesOwn.never rfl (pi_tup (pe_c c_items_behind hr (by omega) rfl (pa_cons (pv 0) pa_nil))) (pg_name (i := 2) nd rfl (Or.inl rfl))
    (pss_one (ps_if (pt_val (pe_callB (id := "isinstance") call_isi (by rfl) T.z_isinstance (by decide +kernel) (pa_cons (pv 2) (pa_cons (pe_bltn (v := .ty "str") rfl T.z_str (by decide +kernel) rfl) pa_nil)))) (pss_one (ps_expr (pe_bm PySem.F.plainAttrs_list PySem.F.slot_list_append PySem.F.type_list_append mt_append (pv 1) (pa_cons (pv 2) pa_nil)))) (pss_one (ps_if (pt_val (pe_callB (id := "isinstance") call_isi (by rfl) T.z_isinstance (by decide +kernel) (pa_cons (pv 2) (pa_cons (pe_bltn (v := .ty "tuple") rfl T.z_tuple (by decide +kernel) rfl) pa_nil)))) (pss_one (ps_expr (pe_bm PySem.F.plainAttrs_list PySem.F.slot_list_extend PySem.F.type_list_extend mt_extend (pv 1) (pa_cons (pe_c c_mentioned hr (by omega) rfl (pa_cons (pv 2) pa_nil)) pa_nil)))) pss_nil)))))
  (pss_one (ps_ret (pv 1))))), ?_⟩
  refine ⟨(by show 0 ≤ sizeLine; decide), fun F hF => ?_⟩
  have k0 : Kp [] H (upd H F (.lst [])) := Kp.new hF
  refine ⟨_, rfl, v, ds, rfl, k0.dp FreeS.nil hd, fun v1 H1 hv1 k1 => ?_⟩
  obtain ⟨a1, xs, rfl, hS, hA⟩ := dp_tup hv1
  have xl := dpA_len hA
  have F1 := k1.at (show (upd H F (.lst [])) F = some (.lst []) from upd_same) (by simp)
  have k01 := k0.trans k1
  have f1 : FreeT [F] H1 := fun b hb => by rw [List.mem_singleton] at hb; rw [hb, F1]; rfl
  have hcl := cntA_itemsB ds
  have hct : cnt (.tuple ds) = cntA ds := by rw [cnt]
  have tuI : tuA (itemsB ds) = true := tuA_all fun e he => tuA_mem (show tuA ds = true by rw [tu] at htu; exact htu) e (itemsB_mem he)
  have hMI : ∀ e ∈ itemsB ds, MIt N e := by
    cases hM with
    | tup h => exact h
  refine ⟨a1, rfl, ⟨xs, hS⟩, ?_⟩
  refine for_tup (xs := xs) (fun i σ H' => ∃ v2 ss, σ = [some v, some (.ref F), v2] ∧ Kp [] H H' ∧ Kp [F] H1 H' ∧ H' F = some (.lst (List.map V.str ss)) ∧ (∀ x ∈ ss, x ∈ N) ∧ ss.length ≤ cntA ((itemsB ds).take i))
    ⟨_, [], rfl, k01, Kp.refl, F1, (fun x hx => nomatch hx), Nat.zero_le _⟩ (fun i σ H' _ ⟨_, _, _, _, k, _⟩ => k.sqT f1 hS) ?_ ?_
  · rintro i x _ H2 hx ⟨v2, ss, rfl, k2, k12, F2, hin, hle⟩
    obtain ⟨e, he, hdx⟩ := dpA_at' (k12.dpTA f1 tuI hA) hx
    have em := List.mem_of_getElem? he
    have hT := dp_ty hdx
    have ct := cntA_take (itemsB ds) he
    have cl := cntA_le (itemsB ds) (i + 1)
    have stay : Kp [F] H2 H2 := Kp.refl
    refine ⟨_, rfl, _, _, _, _, _, rfl, ClsV.ty _, hT.1, kit_ty (kit_str _ hT.2), _, rfl, ?_⟩
    cases hMI e em with
    | @str y hy =>
      cases dp_str hdx
      refine iteT ?_
      refine ⟨_, rfl, .inl ⟨rfl, _, SqL.of F2⟩, ?_⟩
      refine ⟨_, rfl, F, _, _, rfl, rfl, F2, sm' (by rw [List.length_map]; omega), ?_⟩
      have k3 : Kp [F] H2 (upd H2 F (.lst (ss.map V.str ++ [.str y]))) := Kp.put (by simp)
      refine ⟨_, ss ++ [y], rfl, fun u o hu1 hu2 => k3 u o (by simpa using ne_of_none hu2 hF) (k2 u o hu1 hu2), k12.trans k3, ?_, fun z hz => ?_, ?_⟩
      · rw [upd_same, List.map_append]
        rfl
      · rcases List.mem_append.mp hz with h | h
        · exact hin z h
        · rw [List.mem_singleton] at h
          rw [h]
          exact hy
      · rw [List.length_append, List.length_singleton, ct, cnt]
        omega
    | int =>
      refine iteF ?_
      refine ⟨_, rfl, _, _, _, _, _, rfl, ClsV.ty _, hT.1, kit_ty (kit_tup _ hT.2), _, rfl, iteF ?_⟩
      exact ⟨_, ss, rfl, k2, k12, F2, hin, by omega⟩
    | @tup es hes =>
      refine iteF ?_
      refine ⟨_, rfl, _, _, _, _, _, rfl, ClsV.ty _, hT.1, kit_ty (kit_tup _ hT.2), _, rfl, iteT ?_⟩
      refine ⟨_, rfl, .inl ⟨rfl, _, SqL.of F2⟩, ?_⟩
      have ed := seq_depth (d := .tuple ds) rfl _ (itemsB_mem em)
      refine ⟨_, rfl, x, .tuple es, rfl, hdx, tuA_mem tuI _ em, .tup hes, ⟨es, rfl⟩, by omega, by omega, fun l ss2 H3 hl hlw hin2 hle2 k3 => ?_⟩
      refine ⟨F, l, _, _, rfl, rfl, k3.at F2 (by simp), hlw, sm (by rw [List.length_map, List.length_map]; omega), ?_⟩
      have k4 : Kp [F] H2 (upd H3 F (.lst (ss.map V.str ++ ss2.map V.str))) := k3.all.trans (Kp.put (by simp))
      refine ⟨_, ss ++ ss2, rfl, fun u o hu1 hu2 => k4 u o (by simpa using ne_of_none hu2 hF) (k2 u o hu1 hu2), k12.trans k4, ?_, fun z hz => ?_, ?_⟩
      · rw [upd_same, List.map_append]
      · rcases List.mem_append.mp hz with h | h
        · exact hin z h
        · exact hin2 z h
      · rw [List.length_append, ct]
        omega
  · rintro _ H2 ⟨v2, ss, rfl, k2, k12, F2, hin, hle⟩
    have := cntA_le (itemsB ds) xs.length
    exact ⟨_, rfl, q F ss H2 hF F2 hin (by omega) k2⟩
theorem ment_ok (T : Txt K mg) (N : List Str) : ∀ n, C8.Cal P w K mg base (1 + n) "mentioned" (spMent K N n) []
  | 0 => calVac T.d_mentioned fun vs H Q E h => by
    obtain ⟨v, d, _, _, _, _, _, hd, _⟩ := h
    exact absurd hd (Nat.not_lt_zero _)
  | n + 1 => ment_step T N n (ment_ok T N n)
theorem uniq_ok (T : Txt K mg) : C8.Cal P w K mg base 1 "unlike_ones" (spUniq K) [] := by
  have nd := sc_uniq.nd
  refine calD T.d_unlike_ones sc_uniq (fun vs H Q E h => ?_) (fun f cdv A outer s0 H vs Q E hr h => ?_)
  · obtain ⟨a, ss, rfl, _⟩ := h
    rfl
  obtain ⟨a, ss, rfl, hq, hle, q⟩ := h
  have hu := hu_of hr
  refine ⟨_, (pss_cons (ps_asg (pe_lst pa_nil) (pg_name (i := 1) nd rfl (Or.inl rfl)))
  (pss_cons (ps_for PassesOwn.never rfl (pi_seq (pv 0)) (pg_name (i := 2) nd rfl (Or.inl rfl))
    (pss_one (ps_if (pt_cmpR op_notIn_seq (pv 2) (pv 1) (by rfl)) (pss_one (ps_expr (pe_bm PySem.F.plainAttrs_list PySem.F.slot_list_append PySem.F.type_list_append mt_append (pv 1) (pa_cons (pv 2) pa_nil)))) pss_nil)))
  (pss_one (ps_ret (pe_callTy (T := "tuple") call_tuple_of (by rfl) T.z_tuple (by decide +kernel) (pa_cons (pv 1) pa_nil)))))), ?_⟩
  refine ⟨(by show 0 ≤ sizeLine; decide), fun F hF => ?_⟩
  have k0 : Kp [] H (upd H F (.lst [])) := Kp.new hF
  refine ⟨_, rfl, a, rfl, ?_⟩
  refine for_seqE (xs := ss.map V.str) hq (fun i σ H' => ∃ v2, σ = [some (.ref a), some (.ref F), v2] ∧ Kp [] H H' ∧ H' F = some (.lst ((uniq (ss.take i)).map V.str))) ⟨_, rfl, k0, upd_same⟩ (fun i σ' H' h => by
    obtain ⟨_, _, kk, _⟩ := h
    exact kk.car FreeS.nil) ?_ ?_
  · rintro i x _ H1 hx ⟨v2, rfl, k1, F1⟩
    rw [List.getElem?_map] at hx
    obtain ⟨y, hy, rfl⟩ := Option.map_eq_some_iff.mp hx
    have ul := uniq_len (ss.take i)
    rw [List.length_take] at ul
    have e1 : uniq (ss.take (i + 1)) = uniqStep (uniq (ss.take i)) y := by
      rw [List.take_add_one, hy]
      exact uniq_snoc _ y
    refine ⟨_, rfl, _, rfl, F, _, rfl, .inl (SqL.of F1), rfl, ?_, _, rfl, ?_⟩
    · rw [List.all_map]
      exact List.all_eq_true.mpr fun z hz => rfl
    · rw [inV_strs]
      by_cases c : y ∈ uniq (ss.take i)
      · have : (if true = true then !decide (y ∈ uniq (ss.take i)) else decide (y ∈ uniq (ss.take i))) = false := by rw [if_pos rfl, decide_eq_true c]; rfl
        rw [this]
        refine iteF ⟨_, rfl, k1, ?_⟩
        rw [e1]
        unfold uniqStep
        rw [if_pos c]
        exact F1
      · have : (if true = true then !decide (y ∈ uniq (ss.take i)) else decide (y ∈ uniq (ss.take i))) = true := by rw [if_pos rfl, decide_eq_false c]; rfl
        rw [this]
        refine iteT ?_
        refine ⟨_, rfl, .inl ⟨rfl, _, SqL.of F1⟩, ?_⟩
        refine ⟨_, rfl, F, _, _, rfl, rfl, F1, sm' (by rw [List.length_map]; omega), ?_⟩
        have k2 : Kp [F] H1 (upd H1 F (.lst ((uniq (ss.take i)).map V.str ++ [.str y]))) := Kp.put (by simp)
        refine ⟨_, rfl, fun u o hu1 hu2 => k2 u o (by simpa using ne_of_none hu2 hF) (k1 u o hu1 hu2), ?_⟩
        rw [e1]
        unfold uniqStep
        rw [if_neg c, upd_same, List.map_append]
        rfl
  · rintro _ H1 ⟨v2, rfl, k1, F1⟩
    rw [List.length_map, List.take_of_length_le (Nat.le_refl _)] at F1
    exact ⟨_, rfl, F, _, rfl, .inl ⟨SqL.of F1, fun t ht => q t _ upd_same (k1.trans (Kp.new ht))⟩⟩
end
end Sv
end
section
set_option Elab.async false
set_option linter.all false
set_option autoImplicit false
set_option maxRecDepth 100000
/-! W38: drawn programs are right: plain facts. -/
namespace Sv
open PySem PySem.Spec PyProof.Rows L2
/-! ### names -/
theorem Nm.nameB {N : List Str} (h : Nm N) : ∀ x ∈ N, Sv.nameB x = true := fun x hx => List.all_eq_true.mp (h.all (p := fun N => N.all Sv.nameB) (by decide +kernel)) x hx
theorem p_nameB : Sv.nameB "p" = true := by decide +kernel
/-! ### depth -/
mutual
theorem depth_norm {K : PySem.W.Frag} {H : Hp} : ∀ (d : PyData) (v : V), Dp K H v d → (norm d).depth = d.depth
  | .none, _, _ => by rw [norm]
  | .bool _, _, _ => by rw [norm]
  | .int _, _, _ => by rw [norm]
  | .str _, _, _ => by rw [norm]
  | .list ds, _, h => by
    cases h with
    | lst hs ha => rw [norm, PyData.depth, PyData.depth, depth_normA ds _ ha]
  | .tuple ds, _, h => by
    cases h with
    | tup hs ha => rw [norm, PyData.depth, PyData.depth, depth_normA ds _ ha]
  | .dict _, _, h => by cases h
theorem depth_normA {K : PySem.W.Frag} {H : Hp} : ∀ (ds : List PyData) (vs : List V), DpAll K H vs ds → PyData.depthAll (normA ds) = PyData.depthAll ds
  | [], _, _ => by rw [normA]
  | d :: ds, _, h => by
    cases h with
    | cons h1 h2 => rw [normA, PyData.depthAll, PyData.depthAll, depth_norm d _ h1, depth_normA ds _ h2]
end
mutual
theorem Stm.dep1 : ∀ s : Stm, s.enc.depth ≤ s.dp
  | .set x v => by simp [Stm.enc, Stm.dp, PyData.depth, PyData.depthAll, v.dep]
  | .give a => by simp [Stm.enc, Stm.dp, PyData.depth, PyData.depthAll, a.dep]
  | .skip => by simp [Stm.enc, Stm.dp, PyData.depth, PyData.depthAll]
  | .brk => by simp [Stm.enc, Stm.dp, PyData.depth, PyData.depthAll]
  | .nxt => by simp [Stm.enc, Stm.dp, PyData.depth, PyData.depthAll]
  | .ifs c b1 b2 => by
    have h1 := b1.dep1
    have h2 := b2.dep1
    have h0 := c.dep
    simp only [Stm.enc, Stm.dp, PyData.depth, PyData.depthAll]
    omega
  | .while c b => by
    have h1 := b.dep1
    have h0 := c.dep
    simp only [Stm.enc, Stm.dp, PyData.depth, PyData.depthAll]
    omega
  | .loop b => by
    have h1 := b.dep1
    simp only [Stm.enc, Stm.dp, PyData.depth, PyData.depthAll]
    omega
theorem Blk.dep1 : ∀ b : Blk, PyData.depthAll b.encs + 1 ≤ b.dp
  | .nil => by simp [Blk.encs, Blk.dp, PyData.depthAll]
  | .cons s b => by
    have h1 := s.dep1
    have h2 := b.dep1
    simp only [Blk.encs, Blk.dp, PyData.depthAll]
    omega
end
theorem blk_dep (b : Blk) : b.enc.depth ≤ b.dp := by
  have := b.dep1
  rw [Blk.enc, PyData.depth]
  omega
/-! ### size of rows -/
theorem Cnd.slim : ∀ c : Cnd, Sv.slim c.enc = true
  | .pair p => p.slim
  | .not c => slim_t (by show 2 ≤ 1000; decide) (slim_c rfl (slim_c c.slim slim_n))
  | .bin k c d => slim_t (by show 3 ≤ 1000; decide) (slim_c rfl (slim_c c.slim (slim_c d.slim slim_n)))
theorem encs_lt (b : Blk) : b.encs.length < b.dp := by
  rw [toL_encs, List.length_map]
  exact toL_len b
mutual
theorem Stm.slim : ∀ s : Stm, s.dp ≤ 1000 → Sv.slim s.enc = true
  | .set x v, _ => slim_t (by show 3 ≤ 1000; decide) (slim_c rfl (slim_c rfl (slim_c v.slim slim_n)))
  | .give a, _ => slim_t (by show 2 ≤ 1000; decide) (slim_c rfl (slim_c a.slim slim_n))
  | .skip, _ => slim_t (by show 1 ≤ 1000; decide) (slim_c rfl slim_n)
  | .brk, _ => slim_t (by show 1 ≤ 1000; decide) (slim_c rfl slim_n)
  | .nxt, _ => slim_t (by show 1 ≤ 1000; decide) (slim_c rfl slim_n)
  | .ifs c b1 b2, h => by
    rw [Stm.dp] at h
    have e1 := encs_lt b1
    have e2 := encs_lt b2
    exact slim_t (by show 4 ≤ 1000; decide) (slim_c rfl (slim_c c.slim (slim_c (slim_t (by omega) (b1.slimA (by omega))) (slim_c (slim_t (by omega) (b2.slimA (by omega))) slim_n))))
  | .while c b, h => by
    rw [Stm.dp] at h
    have e1 := encs_lt b
    exact slim_t (by show 3 ≤ 1000; decide) (slim_c rfl (slim_c c.slim (slim_c (slim_t (by omega) (b.slimA (by omega))) slim_n)))
  | .loop b, h => by
    rw [Stm.dp] at h
    have e1 := encs_lt b
    exact slim_t (by show 2 ≤ 1000; decide) (slim_c rfl (slim_c (slim_t (by omega) (b.slimA (by omega))) slim_n))
theorem Blk.slimA : ∀ b : Blk, b.dp ≤ 1000 → Sv.slimA b.encs = true
  | .nil, _ => by rw [Blk.encs]; exact slim_n
  | .cons s b, h => by
    rw [Blk.dp] at h
    rw [Blk.encs]
    exact slim_c (s.slim (by omega)) (b.slimA (by omega))
end
theorem blk_slim (b : Blk) (h : b.dp ≤ 1000) : slim b.enc = true := by
  have := encs_lt b
  rw [Blk.enc]
  exact slim_t (by omega) (b.slimA h)
/-! ### names mentioned, counted -/
section
variable {N : List Str}
theorem Opd.mit : ∀ (a : Opd), a.ok N → MIt N a.enc
  | .nm _, h => .str h
  | .num _, _ => .int
theorem Val.mit : ∀ (v : Val), v.ok N → MIt N v.enc
  | .as a, h => .tup fun e he => by
    have he : e ∈ [a.enc] := he
    rw [List.mem_singleton] at he
    rw [he]
    exact a.mit h
  | .bin o a b, h => .tup fun e he => by
    have he : e ∈ [a.enc, b.enc] := he
    have ha : a.ok N := by cases o <;> exact h.1
    have hb : MIt N b.enc := by
      cases o with
      | times =>
        cases b with
        | nm x => exact h.2.elim
        | num i => exact .int
      | plus => exact b.mit h.2
      | less => exact b.mit h.2
    rcases List.mem_cons.mp he with z | z
    · rw [z]; exact a.mit ha
    · rw [List.mem_singleton] at z
      rw [z]; exact hb
theorem Cnd.mit : ∀ (c : Cnd), c.ok N → MIt N c.enc
  | .pair p, h => .tup fun e he => by
    have he : e ∈ [p.a.enc, p.b.enc] := he
    rcases List.mem_cons.mp he with z | z
    · rw [z]; exact p.a.mit h.1
    · rw [List.mem_singleton] at z
      rw [z]; exact p.b.mit h.2
  | .not c, h => .tup fun e he => by
    have he : e ∈ [c.enc] := he
    rw [List.mem_singleton] at he
    rw [he]
    exact c.mit h
  | .bin k c d, h => .tup fun e he => by
    have he : e ∈ [c.enc, d.enc] := he
    rcases List.mem_cons.mp he with z | z
    · rw [z]; exact c.mit h.1
    · rw [List.mem_singleton] at z
      rw [z]; exact d.mit h.2
theorem encs_items (b : Blk) : itemsB b.encs = b.encs := by
  cases b with
  | nil => rw [Blk.encs]; rfl
  | cons s b =>
    rw [Blk.encs]
    unfold itemsB
    split
    · rename_i h
      have h2 := (List.cons.inj h).1
      cases s <;> simp [Stm.enc] at h2
    · rfl
mutual
theorem Stm.mit : ∀ (s : Stm) (l : Bool), s.ok N l → MIt N s.enc
  | .set x v, l, h => by
    rw [Stm.ok] at h
    rw [Stm.enc]
    refine .tup fun e he => ?_
    have he : e ∈ [.str x, v.enc] := he
    rcases List.mem_cons.mp he with z | z
    · rw [z]; exact .str h.1
    · rw [List.mem_singleton] at z
      rw [z]; exact v.mit h.2
  | .give a, l, h => by
    rw [Stm.ok] at h
    rw [Stm.enc]
    refine .tup fun e he => ?_
    have he : e ∈ [a.enc] := he
    rw [List.mem_singleton] at he
    rw [he]; exact a.mit h
  | .skip, _, _ => by rw [Stm.enc]; exact .tup fun e he => nomatch he
  | .brk, _, _ => by rw [Stm.enc]; exact .tup fun e he => nomatch he
  | .nxt, _, _ => by rw [Stm.enc]; exact .tup fun e he => nomatch he
  | .ifs c b1 b2, l, h => by
    rw [Stm.ok] at h
    rw [Stm.enc]
    refine .tup fun e he => ?_
    have he : e ∈ [c.enc, .tuple b1.encs, .tuple b2.encs] := he
    rcases List.mem_cons.mp he with z | z
    · rw [z]; exact c.mit h.1
    · rcases List.mem_cons.mp z with z | z
      · rw [z]; exact .tup fun e he => b1.mitA l h.2.2.1 e (by rw [encs_items] at he; exact he)
      · rw [List.mem_singleton] at z
        rw [z]; exact .tup fun e he => b2.mitA l h.2.2.2 e (by rw [encs_items] at he; exact he)
  | .while c b, l, h => by
    rw [Stm.ok] at h
    rw [Stm.enc]
    refine .tup fun e he => ?_
    have he : e ∈ [c.enc, .tuple b.encs] := he
    rcases List.mem_cons.mp he with z | z
    · rw [z]; exact c.mit h.1
    · rw [List.mem_singleton] at z
      rw [z]; exact .tup fun e he => b.mitA true h.2.2 e (by rw [encs_items] at he; exact he)
  | .loop b, l, h => by
    rw [Stm.ok] at h
    rw [Stm.enc]
    refine .tup fun e he => ?_
    have he : e ∈ [.tuple b.encs] := he
    rw [List.mem_singleton] at he
    rw [he]; exact .tup fun e he => b.mitA true h e (by rw [encs_items] at he; exact he)
theorem Blk.mitA : ∀ (b : Blk) (l : Bool), b.ok N l → ∀ e ∈ b.encs, MIt N e
  | .nil, _, _, e, he => by rw [Blk.encs] at he; cases he
  | .cons s b, l, h, e, he => by
    rw [Blk.ok] at h
    rw [Blk.encs] at he
    rcases List.mem_cons.mp he with z | z
    · rw [z]; exact s.mit l h.1
    · exact b.mitA l h.2 e z
end
theorem Blk.mit {b : Blk} {l : Bool} (h : b.ok N l) : MIt N b.enc := .tup fun e he => b.mitA l h e (by rw [encs_items] at he; exact he)
theorem Opd.cnt (a : Opd) : Sv.cnt a.enc = 1 := by cases a <;> simp [Opd.enc, Sv.cnt]
theorem Opd.tups (a : Opd) : Sv.tups a.enc = 0 := by cases a <;> simp [Opd.enc, Sv.tups]
theorem Val.cnt (v : Val) : Sv.cnt v.enc ≤ 3 := by cases v <;> simp [Val.enc, Sv.cnt, cntA, Opd.cnt]
theorem Val.tups (v : Val) : Sv.tups v.enc = 1 := by cases v <;> simp [Val.enc, Sv.tups, tupsA, Opd.tups]
theorem Cnd.cnt : ∀ c : Cnd, Sv.cnt c.enc ≤ 3 * c.parts
  | .pair p => by simp [Cnd.enc, Pair.enc, Sv.cnt, cntA, Opd.cnt, Cnd.parts]
  | .not c => by
    have := c.cnt
    simp only [Cnd.enc, Sv.cnt, cntA, Cnd.parts]
    omega
  | .bin k c d => by
    have := c.cnt
    have := d.cnt
    simp only [Cnd.enc, Sv.cnt, cntA, Cnd.parts]
    omega
theorem Cnd.tups : ∀ c : Cnd, Sv.tups c.enc ≤ c.parts
  | .pair p => by simp [Cnd.enc, Pair.enc, Sv.tups, tupsA, Opd.tups, Cnd.parts]
  | .not c => by
    have := c.tups
    simp only [Cnd.enc, Sv.tups, tupsA, Cnd.parts]
    omega
  | .bin k c d => by
    have := c.tups
    have := d.tups
    simp only [Cnd.enc, Sv.tups, tupsA, Cnd.parts]
    omega
mutual
theorem Stm.cnt : ∀ (s : Stm) (l : Bool), s.ok N l → Sv.cnt s.enc ≤ 16 * s.size ∧ Sv.tups s.enc ≤ 9 * s.size
  | .set x v, l, h => by
    have h1 := v.cnt
    have h2 := v.tups
    simp only [Stm.enc, Sv.cnt, cntA, Sv.tups, tupsA, Stm.size]
    omega
  | .give a, l, h => by
    have h1 := a.cnt
    have h2 := a.tups
    simp only [Stm.enc, Sv.cnt, cntA, Sv.tups, tupsA, Stm.size]
    omega
  | .skip, _, _ => by simp [Stm.enc, Sv.cnt, cntA, Sv.tups, tupsA, Stm.size]
  | .brk, _, _ => by simp [Stm.enc, Sv.cnt, cntA, Sv.tups, tupsA, Stm.size]
  | .nxt, _, _ => by simp [Stm.enc, Sv.cnt, cntA, Sv.tups, tupsA, Stm.size]
  | .ifs c b1 b2, l, h => by
    rw [Stm.ok] at h
    have h1 := b1.cntA l h.2.2.1
    have h2 := b2.cntA l h.2.2.2
    have h3 := c.cnt
    have h4 := c.tups
    have h5 := h.2.1
    simp only [Stm.enc, Sv.cnt, Sv.cntA, Sv.tups, tupsA, Stm.size]
    omega
  | .while c b, l, h => by
    rw [Stm.ok] at h
    have h1 := b.cntA true h.2.2
    have h3 := c.cnt
    have h4 := c.tups
    have h5 := h.2.1
    simp only [Stm.enc, Sv.cnt, Sv.cntA, Sv.tups, tupsA, Stm.size]
    omega
  | .loop b, l, h => by
    rw [Stm.ok] at h
    have h1 := b.cntA true h
    simp only [Stm.enc, Sv.cnt, Sv.cntA, Sv.tups, tupsA, Stm.size]
    omega
theorem Blk.cntA : ∀ (b : Blk) (l : Bool), b.ok N l → Sv.cntA b.encs ≤ 16 * b.size ∧ tupsA b.encs ≤ 9 * b.size
  | .nil, _, _ => by simp [Blk.encs, Sv.cntA, tupsA]
  | .cons s b, l, h => by
    rw [Blk.ok] at h
    have h1 := s.cnt l h.1
    have h2 := b.cntA l h.2
    simp only [Blk.encs, Sv.cntA, tupsA, Blk.size]
    omega
end
end
end Sv
end
section
set_option Elab.async false
set_option linter.all false
set_option autoImplicit false
set_option maxRecDepth 100000
/-! W39: drawn programs pass the package's checks. -/
namespace Sv
open PySem PySem.Spec PyProof.Rows L2
theorem norm_seq {d : PyData} {es : List PyData} (h : norm d = .tuple es) : ∃ ds, seqOf d = some ds ∧ ds.map norm = es := by
  cases d with
  | list ds =>
    rw [norm, normA_map] at h
    injection h with h
    exact ⟨ds, rfl, h⟩
  | tuple ds =>
    rw [norm, normA_map] at h
    injection h with h
    exact ⟨ds, rfl, h⟩
  | _ => rw [norm] at h; cases h
theorem norm_str {d : PyData} {x : Str} (h : norm d = .str x) : d = .str x := by
  cases d with
  | str y => rw [norm] at h; exact h
  | _ => rw [norm] at h; cases h
theorem norm_word {d : PyData} {x : Str} {es : List PyData} (h : norm d = .tuple (.str x :: es)) : ∃ ds, seqOf d = some (.str x :: ds) ∧ ds.map norm = es := by
  obtain ⟨ds, h1, h2⟩ := norm_seq h
  cases ds with
  | nil => cases h2
  | cons e ds =>
    injection h2 with h3 h4
    rw [norm_str h3] at h1
    exact ⟨ds, h1, h4⟩
theorem PartOk.mk {l m : Bool} {s x : Str} {d : PyData} {ds : List PyData} {f : List Str} (hs : s = "statement" ∨ s = "value" ∨ s = "condition") (hq : seqOf d = some (.str x :: ds)) (hf : formOf s x = some f)
    (hb : s = "statement" → x = "break" ∨ x = "next" → l = true) (hm : (l || (decide (x = "while") || decide (x = "loop"))) = m) (hp : Paired (fun e t => PartOk m t e) ds f) : PartOk l s d := by
  refine .part hs hq hf (Paired.length hp).symm hb fun i e t he ht => ?_
  obtain ⟨t2, h1, h2⟩ := paired_at hp he
  rw [ht] at h1
  cases h1
  rw [hm]
  exact h2
theorem map1 {α β : Type} {f : α → β} {l : List α} {b : β} (h : l.map f = [b]) : ∃ a, l = [a] ∧ f a = b := by
  match l, h with
  | [a], h => exact ⟨a, rfl, (List.cons.inj h).1⟩
theorem map2 {α β : Type} {f : α → β} {l : List α} {b c : β} (h : l.map f = [b, c]) : ∃ x y, l = [x, y] ∧ f x = b ∧ f y = c := by
  match l, h with
  | [x, y], h => exact ⟨x, y, rfl, (List.cons.inj h).1, (List.cons.inj (List.cons.inj h).2).1⟩
theorem map3 {α β : Type} {f : α → β} {l : List α} {b c d : β} (h : l.map f = [b, c, d]) : ∃ x y z, l = [x, y, z] ∧ f x = b ∧ f y = c ∧ f z = d := by
  match l, h with
  | [x, y, z], h => exact ⟨x, y, z, rfl, (List.cons.inj h).1, (List.cons.inj (List.cons.inj h).2).1, (List.cons.inj (List.cons.inj (List.cons.inj h).2).2).1⟩
section
variable {N : List Str}
theorem opd_part {l : Bool} {d : PyData} (hN : ∀ x ∈ N, nameB x = true) : ∀ (a : Opd), a.ok N → norm d = a.enc → PartOk l "operand" d
  | .nm x, h, e => by
    rw [norm_str e]
    exact .opn (hN x h)
  | .num i, h, e => by
    rw [norm_int e]
    have h1 : -4 ≤ i ∧ i ≤ 4 := h
    exact .opi (by omega) (by omega)
theorem num_part {l : Bool} {d : PyData} : ∀ (a : Opd), a.isNum → norm d = a.enc → PartOk l "factor" d
  | .nm x, h, e => h.elim
  | .num i, h, e => by
    rw [norm_int e]
    have h1 : -3 ≤ i ∧ i ≤ 3 := h
    exact .factor (by omega) (by omega)
theorem or_ff (l : Bool) {x : Str} (h1 : x ≠ "while") (h2 : x ≠ "loop") : (l || (decide (x = "while") || decide (x = "loop"))) = l := by
  rw [decide_eq_false h1, decide_eq_false h2, Bool.or_false, Bool.or_false]
theorem val_part {l : Bool} {d : PyData} (hN : ∀ x ∈ N, nameB x = true) : ∀ (v : Val), v.ok N → norm d = v.enc → PartOk l "value" d
  | .as a, h, e => by
    obtain ⟨ds, h1, h2⟩ := norm_word e
    obtain ⟨x, rfl, hx⟩ := map1 h2
    exact .mk (.inr (.inl rfl)) h1 (f := ["operand"]) (by decide +kernel) (fun z => absurd z (by decide)) (or_ff l (by decide) (by decide)) (.cons (opd_part hN a h hx) .nil)
  | .bin .plus a b, h, e => by
    obtain ⟨ds, h1, h2⟩ := norm_word e
    obtain ⟨x, y, rfl, hx, hy⟩ := map2 h2
    exact .mk (.inr (.inl rfl)) h1 (f := ["operand", "operand"]) (by decide +kernel) (fun z => absurd z (by decide)) (or_ff l (by decide) (by decide)) (.cons (opd_part hN a h.1 hx) (.cons (opd_part hN b h.2 hy) .nil))
  | .bin .less a b, h, e => by
    obtain ⟨ds, h1, h2⟩ := norm_word e
    obtain ⟨x, y, rfl, hx, hy⟩ := map2 h2
    exact .mk (.inr (.inl rfl)) h1 (f := ["operand", "operand"]) (by decide +kernel) (fun z => absurd z (by decide)) (or_ff l (by decide) (by decide)) (.cons (opd_part hN a h.1 hx) (.cons (opd_part hN b h.2 hy) .nil))
  | .bin .times a b, h, e => by
    obtain ⟨ds, h1, h2⟩ := norm_word e
    obtain ⟨x, y, rfl, hx, hy⟩ := map2 h2
    exact .mk (.inr (.inl rfl)) h1 (f := ["operand", "factor"]) (by decide +kernel) (fun z => absurd z (by decide)) (or_ff l (by decide) (by decide)) (.cons (opd_part hN a h.1 hx) (.cons (num_part b h.2 hy) .nil))
theorem cnd_part (hN : ∀ x ∈ N, nameB x = true) : ∀ (c : Cnd) (l : Bool) (d : PyData), c.ok N → norm d = c.enc → PartOk l "condition" d
  | .pair p, l, d, h, e => by
    obtain ⟨ds, h1, h2⟩ := norm_word (x := p.k.word) e
    obtain ⟨x, y, rfl, hx, hy⟩ := map2 h2
    have hf : formOf "condition" p.k.word = some (["operand", "operand"] : List Str) := by cases p.k <;> decide +kernel
    have n1 : p.k.word ≠ "while" := by cases p.k <;> decide
    have n2 : p.k.word ≠ "loop" := by cases p.k <;> decide
    exact .mk (.inr (.inr rfl)) h1 hf (fun z => absurd z (by decide)) (or_ff l n1 n2) (.cons (opd_part hN p.a h.1 hx) (.cons (opd_part hN p.b h.2 hy) .nil))
  | .not c, l, d, h, e => by
    obtain ⟨ds, h1, h2⟩ := norm_word e
    obtain ⟨x, rfl, hx⟩ := map1 h2
    exact .mk (.inr (.inr rfl)) h1 (f := ["condition"]) (by decide +kernel) (fun z => absurd z (by decide)) (or_ff l (by decide) (by decide)) (.cons (cnd_part hN c l x h hx) .nil)
  | .bin k c c2, l, d, h, e => by
    obtain ⟨ds, h1, h2⟩ := norm_word (x := bw k) e
    obtain ⟨x, y, rfl, hx, hy⟩ := map2 h2
    have hf : formOf "condition" (bw k) = some (["condition", "condition"] : List Str) := by cases k <;> decide +kernel
    have n1 : bw k ≠ "while" := by cases k <;> decide
    have n2 : bw k ≠ "loop" := by cases k <;> decide
    exact .mk (.inr (.inr rfl)) h1 hf (fun z => absurd z (by decide)) (or_ff l n1 n2) (.cons (cnd_part hN c l x h.1 hx) (.cons (cnd_part hN c2 l y h.2 hy) .nil))
mutual
theorem stm_part (hN : ∀ x ∈ N, nameB x = true) : ∀ (s : Stm) (l : Bool) (d : PyData), s.ok N l → norm d = s.enc → PartOk l "statement" d
  | .set x v, l, d, h, e => by
    rw [Stm.ok] at h
    rw [Stm.enc] at e
    obtain ⟨ds, h1, h2⟩ := norm_word e
    obtain ⟨y, z, rfl, hy, hz⟩ := map2 h2
    rw [norm_str hy] at h1
    exact .mk (.inl rfl) h1 (f := ["name", "value"]) (by decide +kernel) (fun _ z => z.elim (fun q => absurd q (by decide)) (fun q => absurd q (by decide))) (or_ff l (by decide) (by decide)) (.cons (.name (hN x h.1)) (.cons (val_part hN v h.2 hz) .nil))
  | .give a, l, d, h, e => by
    rw [Stm.ok] at h
    rw [Stm.enc] at e
    obtain ⟨ds, h1, h2⟩ := norm_word e
    obtain ⟨y, rfl, hy⟩ := map1 h2
    exact .mk (.inl rfl) h1 (f := ["operand"]) (by decide +kernel) (fun _ z => z.elim (fun q => absurd q (by decide)) (fun q => absurd q (by decide))) (or_ff l (by decide) (by decide)) (.cons (opd_part hN a h hy) .nil)
  | .skip, l, d, h, e => by
    rw [Stm.enc] at e
    obtain ⟨ds, h1, h2⟩ := norm_word e
    rw [List.map_eq_nil_iff.mp h2] at h1
    exact .mk (.inl rfl) h1 (f := []) (by decide +kernel) (fun _ z => z.elim (fun q => absurd q (by decide)) (fun q => absurd q (by decide))) (or_ff l (by decide) (by decide)) .nil
  | .brk, l, d, h, e => by
    rw [Stm.ok] at h
    rw [Stm.enc] at e
    obtain ⟨ds, h1, h2⟩ := norm_word e
    rw [List.map_eq_nil_iff.mp h2] at h1
    exact .mk (.inl rfl) h1 (f := []) (by decide +kernel) (fun _ _ => h) (or_ff l (by decide) (by decide)) .nil
  | .nxt, l, d, h, e => by
    rw [Stm.ok] at h
    rw [Stm.enc] at e
    obtain ⟨ds, h1, h2⟩ := norm_word e
    rw [List.map_eq_nil_iff.mp h2] at h1
    exact .mk (.inl rfl) h1 (f := []) (by decide +kernel) (fun _ _ => h) (or_ff l (by decide) (by decide)) .nil
  | .ifs c b1 b2, l, d, h, e => by
    rw [Stm.ok] at h
    rw [Stm.enc] at e
    obtain ⟨ds, h1, h2⟩ := norm_word e
    obtain ⟨x, y, z, rfl, hx, hy, hz⟩ := map3 h2
    exact .mk (.inl rfl) h1 (f := ["condition", "block", "block"]) (by decide +kernel) (fun _ z => z.elim (fun q => absurd q (by decide)) (fun q => absurd q (by decide))) (or_ff l (by decide) (by decide))
      (.cons (cnd_part hN c l x h.1 hx) (.cons (blk_part hN b1 l y h.2.2.1 hy) (.cons (blk_part hN b2 l z h.2.2.2 hz) .nil)))
  | .while c b, l, d, h, e => by
    rw [Stm.ok] at h
    rw [Stm.enc] at e
    obtain ⟨ds, h1, h2⟩ := norm_word e
    obtain ⟨x, y, rfl, hx, hy⟩ := map2 h2
    exact .mk (.inl rfl) h1 (f := ["condition", "block"]) (by decide +kernel) (fun _ z => z.elim (fun q => absurd q (by decide)) (fun q => absurd q (by decide))) (show _ = true by rw [decide_eq_true (rfl : ("while" : Str) = "while"), Bool.true_or, Bool.or_true])
      (.cons (cnd_part hN c true x h.1 hx) (.cons (blk_part hN b true y h.2.2 hy) .nil))
  | .loop b, l, d, h, e => by
    rw [Stm.ok] at h
    rw [Stm.enc] at e
    obtain ⟨ds, h1, h2⟩ := norm_word e
    obtain ⟨y, rfl, hy⟩ := map1 h2
    exact .mk (.inl rfl) h1 (f := ["block"]) (by decide +kernel) (fun _ z => z.elim (fun q => absurd q (by decide)) (fun q => absurd q (by decide))) (show _ = true by rw [decide_eq_true (rfl : ("loop" : Str) = "loop"), Bool.or_true, Bool.or_true])
      (.cons (blk_part hN b true y h hy) .nil)
theorem blk_part (hN : ∀ x ∈ N, nameB x = true) : ∀ (b : Blk) (l : Bool) (d : PyData), b.ok N l → norm d = .tuple b.encs → PartOk l "block" d
  | b, l, d, h, e => by
    obtain ⟨ds, h1, h2⟩ := norm_seq e
    exact .block h1 (blk_all hN b l ds h h2)
theorem blk_all (hN : ∀ x ∈ N, nameB x = true) : ∀ (b : Blk) (l : Bool) (ds : List PyData), b.ok N l → ds.map norm = b.encs → ∀ e ∈ ds, PartOk l "statement" e
  | .nil, l, ds, h, e, d, hd => by
    rw [Blk.encs] at e
    rw [List.map_eq_nil_iff.mp e] at hd
    cases hd
  | .cons s b, l, [], h, e, d, hd => nomatch hd
  | .cons s b, l, x :: ds, h, e, d, hd => by
    rw [Blk.ok] at h
    rw [Blk.encs, List.map_cons] at e
    injection e with e1 e2
    rcases List.mem_cons.mp hd with z | z
    · rw [z]; exact stm_part hN s l x h.1 e1
    · exact blk_all hN b l ds h.2 e2 d z
end
end
end Sv
end
section
set_option Elab.async false
set_option linter.all false
set_option autoImplicit false
set_option maxRecDepth 100000
/-! W40: Program.names, Program.__init__. -/
namespace Sv
open PySem PySem.Spec PyProof.Rows L2
open C8 (pe_c pe_mt pe_mt0 pe_mk pe_gc)
def rLenK (K : PySem.W.Frag) : List V → Hp → VK → Prop := fun xs H Q => ∃ p ys, xs = [.ref p] ∧ (SqL K H p ys ∨ SqT K H p ys) ∧ Q (.int ys.length) H
theorem call_len_K {X : Cx} : CallR X (.builtin "len") (rLenK X.K) := call_len_seq
theorem lc_seqE {K : PySem.W.Frag} {a : Addr} {xs : List V} {g : TG} {tt : TT} {te : TE} {vs : List Nat} {σ : L2.St} {H1 : Hp} {Qd : Addr → Hp → Prop} (h : SqE K H1 a xs) (Pv : Addr → Nat → Hp → Prop) (h0 : ∀ D, H1 D = none → Pv D 0 (upd H1 D (.lst []))) (hG : ∀ D i H, H1 D = none → Pv D i H → Car K H1 H a)
    (hs : ∀ D, H1 D = none → ∀ i x H, xs[i]? = some x → Pv D i H → g x (wipe σ vs) H fun σ2 H2 => wipe σ2 vs = wipe σ vs ∧ tt σ2 H2 fun b H3 =>
      if b = true then te σ2 H3 fun y H4 => ∃ acc, H4 D = some (.lst acc) ∧ acc.length < sizeLine ∧ Pv D (i + 1) (upd H4 D (.lst (acc ++ [y]))) else Pv D (i + 1) H3) (hd : ∀ D, H1 D = none → ∀ H, Pv D xs.length H → Qd D H) :
    ((∃ xs, SqL K H1 a xs) ∧ ∀ D, H1 D = none → ∃ W : Nat → Nat → Hp → Prop, (∃ m, W 0 m (upd H1 D (.lst []))) ∧ ∀ i m H, W i m H →
      ((Itl K a).stop i H ∧ Qd D H) ∨ ((Itl K a).go i H ∧ ∃ Nx : Hp → Prop, (∀ H', Nx H' → ∃ m', m' < m ∧ W (i + 1) m' H') ∧ ∀ x H', (Itl K a).yld i H x H' → g x (wipe σ vs) H' fun σ2 H2 => wipe σ2 vs = wipe σ vs ∧ tt σ2 H2 fun b H3 =>
        if b = true then te σ2 H3 fun y H4 => ∃ acc, H4 D = some (.lst acc) ∧ acc.length < sizeLine ∧ Nx (upd H4 D (.lst (acc ++ [y]))) else Nx H3)) ∨
    ((∃ xs, SqT K H1 a xs) ∧ ∀ D, H1 D = none → ∃ W : Nat → Nat → Hp → Prop, (∃ m, W 0 m (upd H1 D (.lst []))) ∧ ∀ i m H, W i m H →
      ((Itt K a).stop i H ∧ Qd D H) ∨ ((Itt K a).go i H ∧ ∃ Nx : Hp → Prop, (∀ H', Nx H' → ∃ m', m' < m ∧ W (i + 1) m' H') ∧ ∀ x H', (Itt K a).yld i H x H' → g x (wipe σ vs) H' fun σ2 H2 => wipe σ2 vs = wipe σ vs ∧ tt σ2 H2 fun b H3 =>
        if b = true then te σ2 H3 fun y H4 => ∃ acc, H4 D = some (.lst acc) ∧ acc.length < sizeLine ∧ Nx (upd H4 D (.lst (acc ++ [y]))) else Nx H3)) := by
  rcases h with h | h
  · refine .inl ⟨⟨xs, h⟩, fun D hD => ?_⟩
    refine lc_it (walk_list (xs := xs)) (Pv D) (h0 D hD) (fun i H _ p => (hG D i H hD p).l xs h) ?_ (hd D hD)
    rintro i x H H' _ p ⟨rfl, hx⟩
    exact hs D hD i x _ hx p
  · refine .inr ⟨⟨xs, h⟩, fun D hD => ?_⟩
    refine lc_it (walk_tup (xs := xs)) (Pv D) (h0 D hD) (fun i H _ p => (hG D i H hD p).t xs h) ?_ (hd D hD)
    rintro i x H H' _ p ⟨rfl, hx⟩
    exact hs D hD i x _ hx p
def lcSc (d : Scope) : Expr → Scope
  | .ListComp _ _ s _ => s
  | _ => d
def arg0 : Expr → Expr
  | .Call _ (a :: _) _ _ => a
  | e => e
def ifT : Stmt → Expr
  | .If t _ _ _ => t
  | _ => .Name "x" ⟨0, 0, 0, 0⟩
theorem dp_parts : ∀ c : Cnd, c.dp ≤ c.parts
  | .pair _ => Nat.le_refl _
  | .not c => by
    have := dp_parts c
    rw [Cnd.dp, Cnd.parts]
    omega
  | .bin k c d => by
    have := dp_parts c
    have := dp_parts d
    rw [Cnd.dp, Cnd.parts]
    omega
/-- the conditions' words, each in a list of its own -/
def CondsAt (H : Hp) (D : Addr) (cs : List Cnd) : Prop := ∃ ls : List Addr, H D = some (.lst (ls.map V.ref)) ∧ Paired (fun x (c : Cnd) => x ≠ D ∧ H x = some (.lst (c.words.map V.str))) ls cs
theorem CondsAt.kp {H H' : Hp} {D : Addr} {cs : List Cnd} (h : CondsAt H D cs) (k : Kp [] H H') : CondsAt H' D cs := by
  obtain ⟨ls, h1, h2⟩ := h
  exact ⟨ls, k.at h1 (by simp), paired_mono (fun x c z => ⟨z.1, k.at z.2 (by simp)⟩) h2⟩
theorem CondsAt.add {H : Hp} {D l : Addr} {cs : List Cnd} {c : Cnd} {acc : List V} (h : CondsAt H D cs) (ha : H D = some (.lst acc)) (hl : H l = some (.lst (c.words.map V.str))) (ne : l ≠ D) : CondsAt (upd H D (.lst (acc ++ [.ref l]))) D (cs ++ [c]) := by
  obtain ⟨ls, h1, h2⟩ := h
  rw [h1] at ha
  cases ha
  refine ⟨ls ++ [l], by rw [upd_same, List.map_append]; rfl, ?_⟩
  refine paired_snoc (F := fun x (c : Cnd) => x ≠ D ∧ (upd H D (.lst (ls.map V.ref ++ [.ref l]))) x = some (.lst (c.words.map V.str))) ⟨ne, by rw [upd_ne ne]; exact hl⟩ (paired_mono (F := fun x (c : Cnd) => x ≠ D ∧ H x = some (.lst (c.words.map V.str))) (fun x c z => ⟨z.1, by rw [upd_ne z.1]; exact z.2⟩) h2)
/-- the names of the comprehension in Program.__init__'s test of pairs -/
def anySc : Scope := lcSc (C8.fnScope (clsS 57 0)) (arg0 (ifT ((C8.fnBody (clsS 57 0)).getD 10 (.Pass ⟨0, 0, 0, 0⟩))))
theorem pi_listK {X : Cx} {K : PySem.W.Frag} {tg l : Expr} {tl : TE} (hK : X.K = K) (hl : PE X l tl) : PI X tg l (iList K tl) := by
  subst hK
  exact pi_list hl
def spNames (K : PySem.W.Frag) (CP : Addr) : Sp := fun vs H Q _ => ∃ (pr : Addr) (N : List Str) (k : Nat) (b : Blk), vs = [.ref pr] ∧ PrOk N k b ∧ ProgAt K CP H pr N k b ∧ ∀ (t : Addr) (ys : List V) H', H' t = some (.tup ys) → ys.length ≤ 3 → Kp [] H H' → Q (.ref t) H'
def spProgI (K : PySem.W.Frag) (CP : Addr) : Sp := fun vs H Q _ => ∃ (pr dx : Addr) (v u : V) (N : List Str) (k : Nat) (b : Blk) (d e : PyData), vs = [.ref pr, .str "p", v, u] ∧ H pr = some (.ins CP dx []) ∧ PrOk N k b ∧ Dp K H v d ∧ norm d = .tuple ((N.take k).map PyData.str) ∧ Dp K H u e ∧ norm e = b.enc ∧
  ∀ H', Kp [pr] H H' → ProgAt K CP H' pr N k b → Q .non H'
theorem sc_names : FnScope ["self"] ["self"] (C8.fnScope (clsS 57 2)) := C8.fnScope_by (by decide +kernel)
theorem sc_progi : FnScope ["self", "name", "inputs", "block", "made", "conditions", "item", "words", "word"] ["self", "name", "inputs", "block"] (C8.fnScope (clsS 57 0)) := C8.fnScope_by (by decide +kernel)
section
variable {P : Program} {w : World} {K : PySem.W.Frag} {mg : Str → Option Value} {base : Heap}
theorem names_ok (T : Txt K mg) : C8.Met P w K mg base 22 T.C_Program "names" (spNames K T.C_Program) [] := by
  have nd := sc_names.nd
  have c_unlike_ones := uniq_ok (P := P) (w := w) (base := base) T
  refine metD T.cl_Program T.e_Program_names sc_names (fun vs H Q E h => ?_) (fun f cdv A outer s0 H vs Q E hr h => ?_)
  · obtain ⟨pr, N, k, b, rfl, _⟩ := h
    rfl
  obtain ⟨pr, N, k, b, rfl, hP, hpr, q⟩ := h
  have hu := hu_of hr
  have c_mentioned := ment_ok (P := P) (w := w) (base := base) T N 20
  refine ⟨_, (pss_one (ps_ret (pe_c c_unlike_ones hr (by omega) rfl (pa_cons (pe_op op_cat (pe_callTy (T := "list") call_list_of (by rfl) T.z_list (by decide +kernel) (pa_cons (pe_fld (pv 0) rfl) pa_nil)) (pe_c c_mentioned hr (by omega) rfl (pa_cons (pe_fld (pv 0) rfl) pa_nil))) pa_nil)))), ?_⟩
  obtain ⟨dx, ti, vb, hp1, hp2, hp3⟩ := hpr.ex
  have nl := hP.nm.len
  have hkN := hP.k
  have hsz := hP.size
  have hdp := hP.dp
  have bdp := blk_dep b
  have bcn := b.cntA false hP.ok
  have bc : cnt b.enc = cntA b.encs := by rw [Blk.enc, cnt]
  have tl : (N.take k).length = k := by rw [List.length_take]; omega
  refine ⟨_, rfl, pr, T.C_Program, dx, _, _, rfl, hp1, T.cl_Program, T.n_Program_inputs, rfl, ti, _, rfl, .inr hp2, fun l hl => ?_⟩
  have k1 : Kp [] H (upd H l (.lst ((N.take k).map V.str))) := Kp.new hl
  refine ⟨_, rfl, pr, T.C_Program, dx, _, _, rfl, k1.at hp1 (by simp), T.cl_Program, T.n_Program_block, rfl, vb, b.enc, rfl, k1.dp FreeS.nil hp3, b.tu, Blk.mit hP.ok, ⟨_, rfl⟩, by omega, by omega, fun l2 ss H2 hl2 hl2w hin hle k2 => ?_⟩
  refine ⟨l, l2, _, _, rfl, rfl, k2.at upd_same (by simp), hl2w, sm (by rw [List.length_map, List.length_map]; omega), fun p hp => ?_⟩
  refine ⟨p, N.take k ++ ss, rfl, .inl (SqL.of (by rw [upd_same, List.map_append])), by rw [List.length_append]; omega, fun t H3 ht k3 => ?_⟩
  refine q t _ H3 ht ?_ (k1.trans (k2.trans ((Kp.new hp).trans k3)))
  have := len_sub (uniq_nodup (N.take k ++ ss)) (N := N) fun x hx => by
    rcases List.mem_append.mp ((uniq_mem _ x).mp hx) with z | z
    · exact List.mem_of_mem_take z
    · exact hin x z
  rw [List.length_map]
  omega
theorem progi_ok (T : Txt K mg) (Te : Txe K mg T) (Fo : FormsOk P w K mg) : C8.Mak P w K mg base 50 "Program" T.C_Program (spProgI K T.C_Program) [] := by
  have nd := sc_progi.nd
  have c_is_name := isname_ok (P := P) (w := w) (base := base) T
  have c_is_row := isrow_ok (P := P) (w := w) (base := base) T Te
  have c_unlike_ones := uniq_ok (P := P) (w := w) (base := base) T
  have c_check_block := chkb_ok (P := P) (w := w) (base := base) T Te Fo 18
  have c_as_tuples := ast_ok (P := P) (w := w) (base := base) T Te 19
  have c_statements_in := sin_ok (P := P) (w := w) (base := base) T 19
  have c_parts_in := pin_ok (P := P) (w := w) (base := base) T 19
  have d_names := names_ok (P := P) (w := w) (base := base) T
  refine makD T.m_Program sc_progi (fun vs H Q E h => ?_) (fun f cdv A outer s0 H vs Q E hr h => ?_)
  · obtain ⟨pr, dx, v, u, N, k, b, d, e, rfl, _⟩ := h
    rfl
  obtain ⟨pr, dx, v, u, N, k, b, d, e, rfl, hpr, hP, hd, hdn, he, hen, q⟩ := h
  have hu := hu_of hr
  refine ⟨_, (pss_cons (ps_if (pt_not (pt_val (pe_c c_is_name hr (by omega) rfl (pa_cons (pv 1) pa_nil)))) (pss_one ps_never) pss_nil)
  (pss_cons (ps_if (pt_mid (PW.pt (pw_or (pt_not (pt_val (pe_c c_is_row hr (by omega) rfl (pa_cons (pv 2) pa_nil)))) (pw_or (pt_cmpR op_gt (pe_callB (id := "len") call_len_seq (by rfl) T.z_len PySem.boot_len (pa_cons (pv 2) pa_nil)) (pe_gc rfl T.g_MOST_INPUTS) (nomark _)) (pw_or1 (pt_not (pt_val (pe_callB (id := "all") (cr_all rfl) (by rfl) T.z_all (by decide +kernel) (pa_cons (pe_lc (own := [("item", 6)]) rfl nd (pi_seq (pv 2)) (blkOk_by (N := ["self", "name", "inputs", "block", "made", "conditions", "item", "words", "word"]) (sc := C8.fnScope ((clsS 57 0))) (by decide +kernel)) (fun _ _ _ _ _ => (pg_name (i := 6) nd rfl (Or.inl rfl))) (fun _ _ _ _ _ => pts_nil) (fun _ _ _ _ _ => (pe_c c_is_name hr (by omega) rfl (pa_cons (pv 6) pa_nil)))) pa_nil))))))))) (pss_one ps_never) pss_nil)
  (pss_cons (ps_if (pt_cmpR op_lt (pe_callB (id := "len") call_len_seq (by rfl) T.z_len PySem.boot_len (pa_cons (pe_c c_unlike_ones hr (by omega) rfl (pa_cons (pv 2) pa_nil)) pa_nil)) (pe_callB (id := "len") call_len_seq (by rfl) T.z_len PySem.boot_len (pa_cons (pv 2) pa_nil)) (nomark _)) (pss_one ps_never) pss_nil)
  (pss_cons (ps_expr (pe_c c_check_block hr (by omega) rfl (pa_cons (pv 3) (pa_cons pe_bl pa_nil))))
  (pss_cons (ps_fld (pv 0) (pv 1) rfl)
  (C8.pss_cut (ps_fld (pv 0) (pe_callTy (T := "tuple") call_tuple_of (by rfl) T.z_tuple (by decide +kernel) (pa_cons (pv 2) pa_nil)) rfl)
  (pss_cons (ps_fld (pv 0) (pe_c c_as_tuples hr (by omega) rfl (pa_cons (pv 3) pa_nil)) rfl)
  (pss_cons (ps_asg (pe_c c_statements_in hr (by omega) rfl (pa_cons (pe_fld (pv 0) rfl) pa_nil)) (pg_name (i := 4) nd rfl (Or.inl rfl)))
  (pss_cons (ps_if (pt_cmpR op_gt (pe_callB (id := "len") call_len_seq (by rfl) T.z_len PySem.boot_len (pa_cons (pv 4) pa_nil)) (pe_gc rfl T.g_MOST_STATEMENTS) (nomark _)) (pss_one ps_never) pss_nil)
  (C8.pss_cut (ps_setLc (i := 5) (own := [("item", 6)]) rfl nd rfl rfl (sw_true rfl rfl rfl (by decide +kernel)) (pi_list (pv 4)) (blkOk_by (N := ["self", "name", "inputs", "block", "made", "conditions", "item", "words", "word"]) (sc := C8.fnScope ((clsS 57 0))) (by decide +kernel)) (fun _ _ _ _ _ => (pg_name (i := 6) nd rfl (Or.inl rfl))) (fun _ _ _ _ _ => pts_one (pt_cmpR (r := rIn K false) op_in_seq (pe_ixc (r := rIxT K) ix_tup (pv 6)) (pe_tup (pa_cons pe_str (pa_cons pe_str pa_nil))) (by rfl))) (fun _ _ _ _ _ => (pe_c c_parts_in hr (by omega) rfl (pa_cons (pe_ixc (r := rIxT K) ix_tup (pv 6)) pa_nil))))
  (pss_cons (ps_if (pt_mid (pt_val (pe_callB (id := "any") (cr_any rfl) (by rfl) T.z_any (by decide +kernel) (pa_cons (pe_lc (own := [("words", 7)]) rfl nd (pi_list (pv 5)) (blkOk_by (N := ["self", "name", "inputs", "block", "made", "conditions", "item", "words", "word"]) (sc := C8.fnScope ((clsS 57 0))) (by decide +kernel)) (fun _ _ _ _ _ => (pg_name (i := 7) nd rfl (Or.inl rfl))) (fun _ _ _ _ _ => pts_nil) (fun _ _ _ _ _ => (pe_cmpR op_gt (pe_callB (id := "len") (r := rLenK K) call_len_K (by rfl) T.z_len PySem.boot_len (pa_cons (pe_lc (own := [("word", 8)]) rfl nd (pi_listK (K := K) rfl (pv 7)) (blkOk_by (N := ["self", "name", "inputs", "block", "made", "conditions", "item", "words", "word"]) (sc := anySc) (by decide +kernel)) (fun _ _ _ _ _ => (pg_name (i := 8) nd rfl (Or.inl rfl))) (fun _ _ _ _ _ => pts_one (pt_cmpR (r := rIn K false) op_in_seq (pv 8) (pe_gc rfl T.g_PAIRS_programs) (by rfl))) (fun _ _ _ _ _ => (pv 8))) pa_nil)) (pe_gc rfl T.g_MOST_PAIRS) (nomark _)))) pa_nil)))) (pss_one ps_never) pss_nil)
  (pss_cons (ps_if (pt_mid (pt_val (pe_callB (id := "any") (cr_any rfl) (by rfl) T.z_any (by decide +kernel) (pa_cons (pe_lc (own := [("words", 7)]) rfl nd (pi_list (pv 5)) (blkOk_by (N := ["self", "name", "inputs", "block", "made", "conditions", "item", "words", "word"]) (sc := C8.fnScope ((clsS 57 0))) (by decide +kernel)) (fun _ _ _ _ _ => (pg_name (i := 7) nd rfl (Or.inl rfl))) (fun _ _ _ _ _ => pts_nil) (fun _ _ _ _ _ => (pe_cmpR op_gt (pe_callB (id := "len") (r := rLenK K) call_len_K (by rfl) T.z_len PySem.boot_len (pa_cons (pv 7) pa_nil)) (pe_gc rfl T.g_MOST_PARTS) (nomark _)))) pa_nil)))) (pss_one ps_never) pss_nil)
  (pss_one (ps_if (pt_cmpR op_gt (pe_callB (id := "len") call_len_seq (by rfl) T.z_len PySem.boot_len (pa_cons (pe_mt0 d_names hr (by omega) (pv 0)) pa_nil)) (pe_gc rfl T.g_MOST_NAMES) (nomark _)) (pss_one ps_never) pss_nil)))))))))))))), ?_⟩
  have hNb := hP.nm.nameB
  have nl := hP.nm.len
  have hkN := hP.k
  have hsz := hP.size
  have hdp := hP.dp
  have bdp := blk_dep b
  have tl : (N.take k).length = k := by rw [List.length_take]; omega
  obtain ⟨a, xs, ds, rfl, hq, hA, hds, hdd⟩ := dp_seqE hd hdn
  have hsq : seqOf d = some ds := by rcases hdd with rfl | rfl <;> rfl
  have dse : ds = (N.take k).map PyData.str := by
    have : ∀ (ds : List PyData) (l : List Str), ds.map norm = l.map PyData.str → ds = l.map PyData.str := by
      intro ds
      induction ds with
      | nil => intro l h; cases l with
        | nil => rfl
        | cons x l => cases h
      | cons x ds ih =>
        intro l h
        cases l with
        | nil => cases h
        | cons y l =>
          injection h with h1 h2
          rw [norm_str h1, ih l h2]
          rfl
    exact this ds _ hds
  subst dse
  have xse : xs = (N.take k).map V.str := by
    have : ∀ (l : List Str) (xs : List V), DpAll K H xs (l.map PyData.str) → xs = l.map V.str := by
      intro l
      induction l with
      | nil => intro xs h; cases h; rfl
      | cons y l ih =>
        intro xs h
        obtain ⟨x, ws, rfl, h1, h2⟩ := dpA_cons h
        rw [dp_str h1, ih ws h2]
        rfl
    exact this _ _ hA
  subst xse
  have hnin : ∀ x ∈ N.take k, nameB x = true := fun x hx => hNb x (List.mem_of_mem_take hx)
  -- is_name(name)
  refine ⟨_, rfl, _, rfl, .inl ⟨"p", rfl, p_nameB, fun H1 k1 => ⟨_, rfl, iteF ?_⟩⟩⟩
  -- inputs
  refine ⟨fun t H' => t = false ∧ Kp [] H H', ?_, ?_⟩
  · refine ⟨_, rfl, _, rfl, .inl ⟨_, dp_ty (k1.dp FreeS.nil hd), fun H2 k2 => ⟨_, rfl, ?_⟩⟩⟩
    have e1 : isSeq (tyD d) = true := by rcases hdd with rfl | rfl <;> rfl
    rw [e1]
    refine iteF ?_
    have k02 := k1.trans k2
    have hq2 := hq.kp k02 FreeS.nil
    have no : ¬ (((((N.take k).map V.str).length : Nat) : Int) > 4) := by rw [List.length_map]; omega
    refine ⟨_, rfl, a, _, rfl, hq2, _, _, rfl, rfl, _, rfl, ?_⟩
    refine ite2 (fun z => absurd (of_decide_eq_true z) no) (fun _ => ?_)
    refine ⟨_, rfl, a, rfl, ?_⟩
    refine lc_seqE hq2 (fun D i H' => Kp [] H2 H' ∧ H' D = some (.lst (List.replicate i (V.bl true)))) (fun D hD => ⟨Kp.new hD, upd_same⟩) (fun D i H' hD p => p.1.car FreeS.nil) ?_ ?_
    · rintro D hD i x H3 hx ⟨k3, hD3⟩
      rw [List.getElem?_map] at hx
      obtain ⟨y, hy, rfl⟩ := Option.map_eq_some_iff.mp hx
      have il : i < (N.take k).length := (List.getElem?_eq_some_iff.mp hy).1
      refine ⟨rfl, ?_⟩
      refine ⟨_, rfl, _, rfl, .inl ⟨y, rfl, hnin y (List.mem_of_getElem? hy), fun H4 k4 => ?_⟩⟩
      refine ⟨_, k4.at hD3 (by simp), sm' (by rw [List.length_replicate]; omega), fun g o hg1 hg2 => ?_, ?_⟩
      · rw [upd_ne (ne_of_none hg2 hD)]
        exact (k3.trans k4) _ _ hg1 hg2
      · rw [upd_same, List.replicate_succ']
    · rintro D hD H3 ⟨k3, hD3⟩
      refine ⟨D, List.replicate (N.take k).length true, rfl, SqL.of (by rw [List.map_replicate]; rw [List.length_map] at hD3; exact hD3), ?_⟩
      have : (List.replicate (N.take k).length true).all id = true := List.all_eq_true.mpr fun z hz => by rw [List.mem_replicate] at hz; exact hz.2
      rw [this]
      exact ⟨_, rfl, rfl, k02.trans k3⟩
  rintro _ H2 ⟨rfl, k2⟩
  refine iteF ?_
  -- unlike inputs
  have hnd : (N.take k).Nodup := hP.nm.nodup.sublist (List.take_sublist _ _)
  refine ⟨_, rfl, a, N.take k, rfl, hq.kp k2 FreeS.nil, by omega, fun t H3 ht k3 => ?_⟩
  have k03 := k2.trans k3
  rw [uniq_of_nodup hnd] at ht
  refine ⟨t, _, rfl, .inr (SqT.of ht), _, rfl, a, _, rfl, hq.kp k03 FreeS.nil, _, _, rfl, rfl, _, rfl, ?_⟩
  refine ite2 (fun z => absurd (of_decide_eq_true z) (Int.lt_irrefl _)) (fun _ => ?_)
  -- check_block
  have hed : e.depth < 19 := by
    rw [← depth_norm e u he, hen]
    omega
  refine ⟨_, rfl, u, false, e, rfl, k03.dp FreeS.nil he, blk_part hNb b false e hP.ok hen, hed, fun H4 k4 => ?_⟩
  have k04 := k03.trans k4
  -- self.name
  have p4 := k04.at hpr (by simp)
  refine ⟨_, rfl, _, rfl, pr, T.C_Program, dx, _, rfl, p4, T.cl_Program, T.n_Program_name, by show 0 < 1000; decide, ?_⟩
  have k5 : Kp [pr] H (upd H4 pr (.ins T.C_Program dx [("name", .str "p")])) := k04.all.trans (Kp.put (by simp))
  have p5 : (upd H4 pr (.ins T.C_Program dx [("name", .str "p")])) pr = some (.ins T.C_Program dx [("name", .str "p")]) := upd_same
  have fpr : FreeS [pr] H := fun b hb => by rw [List.mem_singleton] at hb; rw [hb, hpr]; rfl
  change (fun H5 : Hp => _) (upd H4 pr (.ins T.C_Program dx [("name", .str "p")]))
  generalize upd H4 pr (.ins T.C_Program dx [("name", .str "p")]) = H5 at *
  have hq5 := hq.kp k5 fpr
  refine ⟨fun σ' H' => σ' = [some (.ref pr), some (.str "p"), some (.ref a), some u, none, none, none, none, none] ∧ ∃ ti, H' pr = some (.ins T.C_Program dx [("name", .str "p"), ("inputs", .ref ti)]) ∧ SqT K H' ti ((N.take k).map V.str) ∧ Kp [pr] H H', ?_, ?_⟩
  · rcases hq5 with h5 | h5
    · refine ⟨_, rfl, a, _, rfl, .inl ⟨h5, fun l hl => ?_⟩⟩
      have kl : Kp [] H5 (upd H5 l (.tup ((N.take k).map V.str))) := Kp.new hl
      refine ⟨_, rfl, pr, T.C_Program, dx, _, rfl, kl.at p5 (by simp), T.cl_Program, T.n_Program_inputs, by show 1 < 1000; decide, rfl, l, upd_same, ?_, k5.trans (kl.all.trans (Kp.put (by simp)))⟩
      have ne : l ≠ pr := fun z => by rw [z, p5] at hl; cases hl
      exact SqT.of (by rw [upd_ne ne]; exact upd_same)
    · refine ⟨_, rfl, a, _, rfl, .inr ⟨h5, ?_⟩⟩
      refine ⟨_, rfl, pr, T.C_Program, dx, _, rfl, p5, T.cl_Program, T.n_Program_inputs, by show 1 < 1000; decide, rfl, a, upd_same, ?_, k5.trans (Kp.put (by simp))⟩
      exact (Kp.put (M := [pr]) (by simp)).sqT (fun b hb => by rw [List.mem_singleton] at hb; rw [hb, p5]; rfl) h5
  rintro _ H6 ⟨rfl, ti, p6, t6, k6⟩
  -- self.block
  refine ⟨_, rfl, u, rfl, .inl ⟨e, k6.dp fpr he, hed, by rw [hen]; exact blk_slim b (by omega), fun v7 H7 hv7 k7 => ?_⟩⟩
  rw [hen] at hv7
  have p7 := k7.at p6 (by simp)
  refine ⟨_, rfl, pr, T.C_Program, dx, _, rfl, p7, T.cl_Program, T.n_Program_block, by show 2 < 1000; decide, ?_⟩
  have k78 : Kp [pr] H7 (upd H7 pr (.ins T.C_Program dx [("name", .str "p"), ("inputs", .ref ti), ("block", v7)])) := Kp.put (by simp)
  have f7 : FreeT [pr] H7 := fun b hb => by rw [List.mem_singleton] at hb; rw [hb, p7]; rfl
  have k8 : Kp [pr] H (upd H7 pr (.ins T.C_Program dx [("name", .str "p"), ("inputs", .ref ti), ("block", v7)])) := k6.trans (k7.all.trans k78)
  have p8 : (upd H7 pr (.ins T.C_Program dx [("name", .str "p"), ("inputs", .ref ti), ("block", v7)])) pr = some (.ins T.C_Program dx [("name", .str "p"), ("inputs", .ref ti), ("block", v7)]) := upd_same
  have t8 := k78.sqT f7 (k7.sqT FreeS.nil.t t6)
  have v8 := k78.dpT f7 b.tu hv7
  change (fun H8 : Hp => _) (upd H7 pr (.ins T.C_Program dx [("name", .str "p"), ("inputs", .ref ti), ("block", v7)]))
  generalize upd H7 pr (.ins T.C_Program dx [("name", .str "p"), ("inputs", .ref ti), ("block", v7)]) = H8 at *
  have hPA : ProgAt K T.C_Program H8 pr N k b := ⟨dx, ti, v7, p8, t8, v8⟩
  -- made
  refine ⟨_, rfl, pr, T.C_Program, dx, _, _, rfl, p8, T.cl_Program, T.n_Program_block, rfl, v7, b, rfl, v8, by omega, by omega, fun l ms H9 hl hlw hms k9 => ?_⟩
  have ml := dpA_len hms
  have al := all_size b
  rw [List.length_map] at ml
  have no : ¬ (((ms.length : Nat) : Int) > 40) := by omega
  refine ⟨_, rfl, l, _, rfl, .inl (SqL.of hlw), _, _, rfl, rfl, _, rfl, ?_⟩
  refine ite2 (fun z => absurd (of_decide_eq_true z) no) (fun _ => ?_)
  have l9 : SqL K H9 l ms := SqL.of hlw
  refine ⟨fun σ' H' => ∃ D, σ' = [some (.ref pr), some (.str "p"), some (.ref a), some u, some (.ref l), some (.ref D), none, none, none] ∧ Kp [] H9 H' ∧ CondsAt H' D (b.all.filterMap Stm.cond), ?_, ?_⟩
  · refine ⟨_, rfl, l, rfl, ⟨ms, l9⟩, fun D hD => ?_⟩
    refine lc_it (walk_list (xs := ms)) (fun i H' => Kp [] H9 H' ∧ CondsAt H' D ((b.all.take i).filterMap Stm.cond)) ⟨Kp.new hD, [], upd_same, .nil⟩ (fun i H' _ p => p.1.sqL FreeS.nil l9) ?_ ?_
    · rintro i x Ha Hb hi ⟨ka, hC⟩ ⟨rfl, hx⟩
      obtain ⟨st, hst, hdx⟩ := dpA_map (ka.dpA FreeS.nil hms) hx
      obtain ⟨m, sok⟩ := all_ok b false hP.ok st (List.mem_of_getElem? hst)
      have eT : (b.all.take (i + 1)).filterMap Stm.cond = (b.all.take i).filterMap Stm.cond ++ (st.cond).toList := by
        rw [List.take_add_one, hst, List.filterMap_append]
        cases h : st.cond <;> simp [h]
      refine ⟨rfl, ?_⟩
      refine ⟨_, rfl, ?_⟩
      have none_ : st.cond = none → ∀ H', Kp [] Hb H' → Kp [] H9 H' ∧ CondsAt H' D ((b.all.take (i + 1)).filterMap Stm.cond) := fun hn H' kk => by
        rw [eT, hn]
        exact ⟨ka.trans kk, by simpa using hC.kp kk⟩
      have some_ : ∀ c, st.cond = some c → ∀ w Hc, Dp K Hc w c.enc → Kp [] Hb Hc → spPartsIn K 19 [w] Hc (fun y H4 => ∃ acc, H4 D = some (.lst acc) ∧ acc.length < sizeLine ∧ Kp [] H9 (upd H4 D (.lst (acc ++ [y]))) ∧ CondsAt (upd H4 D (.lst (acc ++ [y]))) D ((b.all.take (i + 1)).filterMap Stm.cond)) (fun _ _ _ => False) := fun c hc w Hc hw kc => by
        obtain ⟨cok, cp⟩ := stcond_ok sok hc
        have cd := dp_parts c
        refine ⟨w, c, rfl, hw, by omega, by omega, fun l2 H4 hl2 hlw2 k4 => ?_⟩
        have hC4 := hC.kp (kc.trans k4)
        obtain ⟨ls, h1, h2⟩ := id hC4
        have D3 : Hc D ≠ none := by
          obtain ⟨ls3, h13, _⟩ := hC.kp kc
          rw [h13]
          exact Option.some_ne_none _
        have ne : l2 ≠ D := fun z => D3 (by rw [← z]; exact hl2)
        have pl := Paired.length h2
        have fl := List.length_filterMap_le Stm.cond (b.all.take i)
        rw [List.length_take] at fl
        refine ⟨_, h1, sm' (by rw [List.length_map]; omega), fun g o hg1 hg2 => ?_, ?_⟩
        · rw [upd_ne (ne_of_none hg2 hD)]
          exact (ka.trans (kc.trans k4)) _ _ hg1 hg2
        · rw [eT, hc]
          exact hC4.add h1 hlw2 ne
      cases st with
      | ifs c b1 b2 =>
        rw [Stm.enc] at hdx
        refine ixd (i := 0) hdx rfl fun w hw => ?_
        cases dp_str hw
        refine ⟨(by show 2 ≤ sizeLine; decide), fun t ht => ?_⟩
        refine ⟨t, _, rfl, .inr (SqT.of upd_same), rfl, rfl, _, rfl, iteT ?_⟩
        have kt : Kp [] Hb (upd Hb t (.tup [.str "if", .str "while"])) := Kp.new ht
        refine ⟨_, rfl, ?_⟩
        refine ixd (i := 1) (kt.dp FreeS.nil hdx) rfl fun w hw => ?_
        exact some_ c rfl w _ hw kt
      | «while» c b1 =>
        rw [Stm.enc] at hdx
        refine ixd (i := 0) hdx rfl fun w hw => ?_
        cases dp_str hw
        refine ⟨(by show 2 ≤ sizeLine; decide), fun t ht => ?_⟩
        refine ⟨t, _, rfl, .inr (SqT.of upd_same), rfl, rfl, _, rfl, iteT ?_⟩
        have kt : Kp [] Hb (upd Hb t (.tup [.str "if", .str "while"])) := Kp.new ht
        refine ⟨_, rfl, ?_⟩
        refine ixd (i := 1) (kt.dp FreeS.nil hdx) rfl fun w hw => ?_
        exact some_ c rfl w _ hw kt
      | _ =>
        rw [Stm.enc] at hdx
        refine ixd (i := 0) hdx rfl fun w hw => ?_
        cases dp_str hw
        refine ⟨(by show 2 ≤ sizeLine; decide), fun t ht => ?_⟩
        refine ⟨t, _, rfl, .inr (SqT.of upd_same), rfl, rfl, _, rfl, iteF ?_⟩
        exact none_ rfl _ (Kp.new ht)
    · rintro Ha ⟨ka, hC⟩
      rw [List.take_of_length_le (by omega)] at hC
      exact ⟨D, rfl, ka, hC⟩
  rintro _ Ha ⟨D, rfl, ka, hC⟩
  have hcp : ∀ c ∈ b.all.filterMap Stm.cond, c.parts ≤ 5 := fun c hc => by
    obtain ⟨st, h1, h2⟩ := List.mem_filterMap.mp hc
    obtain ⟨m, sok⟩ := all_ok b false hP.ok st h1
    exact (stcond_ok sok h2).2
  have hcl : (b.all.filterMap Stm.cond).length ≤ 1000 := Nat.le_trans (List.length_filterMap_le _ _) (by omega)
  generalize b.all.filterMap Stm.cond = cs at *
  have anyF : ∀ n, (List.replicate n false).any id = false := fun n => by
    rw [Bool.eq_false_iff]
    intro z
    obtain ⟨y, hy, e⟩ := List.any_eq_true.mp z
    rw [List.mem_replicate] at hy
    rw [hy.2] at e
    cases e
  -- pairs
  refine ⟨fun t H' => t = false ∧ Kp [] Ha H', ?_, ?_⟩
  · obtain ⟨ls, hD, hls⟩ := hC
    have ll := Paired.length hls
    refine ⟨_, rfl, D, rfl, ⟨_, SqL.of hD⟩, fun F hF => ?_⟩
    refine lc_it (walk_list (xs := ls.map V.ref)) (fun i H' => Kp [] Ha H' ∧ H' F = some (.lst (List.replicate i (V.bl false)))) ⟨Kp.new hF, upd_same⟩ (fun i H' _ p => SqL.of (p.1.at hD (by simp))) ?_ ?_
    · rintro i x Hb Hc hi ⟨kb, hF2⟩ ⟨rfl, hx⟩
      rw [List.getElem?_map] at hx
      obtain ⟨y, hy, rfl⟩ := Option.map_eq_some_iff.mp hx
      obtain ⟨c, hc, _, hyw⟩ := paired_at hls hy
      have cp := hcp c (List.mem_of_getElem? hc)
      have cw := c.words_len
      have yb := kb.at hyw (by simp)
      refine ⟨rfl, ?_⟩
      refine ⟨_, rfl, y, rfl, ⟨_, SqL.of yb⟩, fun G hG => ?_⟩
      refine lc_it (walk_list (xs := c.words.map V.str)) (fun j H' => Kp [] Hc H' ∧ ∃ zs : List V, H' G = some (.lst zs) ∧ zs.length ≤ j) ⟨Kp.new hG, [], upd_same, Nat.zero_le _⟩ (fun j H' _ p => SqL.of (p.1.at yb (by simp))) ?_ ?_
      · rintro j x2 Hd He hj ⟨kd, zs, hz, hzl⟩ ⟨rfl, hx2⟩
        rw [List.getElem?_map] at hx2
        obtain ⟨wd, hwd, rfl⟩ := Option.map_eq_some_iff.mp hx2
        have hjl := (List.getElem?_eq_some_iff.mp hwd).1
        refine ⟨rfl, ?_⟩
        refine ⟨_, rfl, _, _, rfl, .inr (T.t_PAIRS_programs He), rfl, (by decide +kernel), _, rfl, ?_⟩
        refine ite2 (fun _ => ?_) (fun _ => ⟨kd, zs, hz, by omega⟩)
        refine ⟨_, rfl, zs, hz, sm' (by omega), fun g o hg1 hg2 => ?_, zs ++ [.str wd], upd_same, by rw [List.length_append, List.length_singleton]; omega⟩
        rw [upd_ne (ne_of_none hg2 hG)]
        exact kd _ _ hg1 hg2
      · rintro Hd ⟨kd, zs, hz, hzl⟩
        rw [List.length_map] at hzl
        have no6 : ¬ (((zs.length : Nat) : Int) > 6) := by omega
        refine ⟨G, zs, rfl, .inl (SqL.of hz), _, _, rfl, rfl, ?_⟩
        dsimp only
        rw [show decide ((6 : Int) < ((zs.length : Nat) : Int)) = false from decide_eq_false no6]
        refine ⟨_, kd.at hF2 (by simp), sm' (by rw [List.length_replicate]; rw [List.length_map] at hi; omega), fun g o hg1 hg2 => ?_, ?_⟩
        · rw [upd_ne (ne_of_none hg2 hF)]
          exact (kb.trans kd) _ _ hg1 hg2
        · rw [upd_same, List.replicate_succ']
    · rintro Hb ⟨kb, hF2⟩
      refine ⟨F, List.replicate (ls.map V.ref).length false, rfl, SqL.of (by rw [List.map_replicate]; exact hF2), ?_⟩
      rw [anyF]
      exact ⟨_, rfl, rfl, kb⟩
  rintro _ Hb ⟨rfl, kb⟩
  refine iteF ?_
  -- parts
  refine ⟨fun t H' => t = false ∧ Kp [] Hb H', ?_, ?_⟩
  · obtain ⟨ls, hD, hls⟩ := hC.kp kb
    have ll := Paired.length hls
    refine ⟨_, rfl, D, rfl, ⟨_, SqL.of hD⟩, fun F hF => ?_⟩
    refine lc_it (walk_list (xs := ls.map V.ref)) (fun i H' => Kp [] Hb H' ∧ H' F = some (.lst (List.replicate i (V.bl false)))) ⟨Kp.new hF, upd_same⟩ (fun i H' _ p => SqL.of (p.1.at hD (by simp))) ?_ ?_
    · rintro i x Hc Hd hi ⟨kc, hF2⟩ ⟨rfl, hx⟩
      rw [List.getElem?_map] at hx
      obtain ⟨y, hy, rfl⟩ := Option.map_eq_some_iff.mp hx
      obtain ⟨c, hc, _, hyw⟩ := paired_at hls hy
      have cp := hcp c (List.mem_of_getElem? hc)
      have cw := c.words_len
      have no20 : ¬ ((((c.words.map V.str).length : Nat) : Int) > 20) := by rw [List.length_map]; omega
      refine ⟨rfl, ?_⟩
      refine ⟨_, rfl, y, _, rfl, .inl (SqL.of (kc.at hyw (by simp))), _, _, rfl, rfl, ?_⟩
      dsimp only
      rw [show decide ((20 : Int) < (((c.words.map V.str).length : Nat) : Int)) = false from decide_eq_false no20]
      refine ⟨_, hF2, sm' (by rw [List.length_replicate]; rw [List.length_map] at hi; omega), fun g o hg1 hg2 => ?_, ?_⟩
      · rw [upd_ne (ne_of_none hg2 hF)]
        exact kc _ _ hg1 hg2
      · rw [upd_same, List.replicate_succ']
    · rintro Hc ⟨kc, hF2⟩
      refine ⟨F, List.replicate (ls.map V.ref).length false, rfl, SqL.of (by rw [List.map_replicate]; exact hF2), ?_⟩
      rw [anyF]
      exact ⟨_, rfl, rfl, kc⟩
  rintro _ Hc ⟨rfl, kc⟩
  refine iteF ?_
  -- names
  have k8c := k9.trans (ka.trans (kb.trans kc))
  refine ⟨_, rfl, pr, dx, _, rfl, k8c.at p8 (by simp), rfl, pr, N, k, b, rfl, hP, hPA.kp0 k8c, fun t ys Hd ht hys kd => ?_⟩
  have no8 : ¬ (((ys.length : Nat) : Int) > 8) := by omega
  refine ⟨t, ys, rfl, .inr (SqT.of ht), _, _, rfl, rfl, _, rfl, ?_⟩
  refine ite2 (fun z => absurd (of_decide_eq_true z) no8) (fun _ => ?_)
  exact q Hd (k8.trans (k8c.trans kd).all) (hPA.kp0 (k8c.trans kd))
end
end Sv
end
section
set_option Elab.async false
set_option linter.all false
set_option autoImplicit false
set_option maxRecDepth 100000
/-! W41: the law's object of the package. -/
namespace Sv
open PySem PySem.Spec PyProof.Rows L2
open C8 (pe_c pe_mt pe_mt0 pe_mk pe_gc)
def spProgOf (K : PySem.W.Frag) (CP : Addr) : Sp := fun vs H Q _ => ∃ (p : Pn) (v : V) (N : List Str) (k : Nat) (b : Blk) (n : Nat), vs = [.ref p, v] ∧ PrOk N k b ∧ Dp K H v (prEnc N k b) ∧ PenAt H p n ∧ n + 500 ≤ penMax ∧
  ∀ (pr : Addr) H', Kp [p] H H' → PenAt H' p (n + 500) → ProgAt K CP H' pr N k b → Q (.ref pr) H'
theorem sc_prof : FnScope ["_law_pen_here", "_law_told"] ["_law_pen_here", "_law_told"] (C8.fnScope (topS 81)) := C8.fnScope_by (by decide +kernel)
theorem strs_tu : ∀ l : List Str, tuA (l.map PyData.str) = true
  | [] => rfl
  | x :: l => by rw [List.map_cons, tuA, strs_tu l]; rfl
theorem strs_slim : ∀ l : List Str, slimA (l.map PyData.str) = true
  | [] => rfl
  | x :: l => by rw [List.map_cons, slimA, strs_slim l]; rfl
theorem strs_tups : ∀ l : List Str, tupsA (l.map PyData.str) = 0
  | [] => by rw [List.map_nil, tupsA]
  | x :: l => by rw [List.map_cons, tupsA, strs_tups l, tups]
theorem strs_dep : ∀ l : List Str, PyData.depthAll (l.map PyData.str) = 0
  | [] => by rw [List.map_nil, PyData.depthAll]
  | x :: l => by rw [List.map_cons, PyData.depthAll, strs_dep l, PyData.depth]; rfl
section
variable {P : Program} {w : World} {K : PySem.W.Frag} {mg : Str → Option Value} {base : Heap}
theorem prof_ok (T : Txt K mg) (Te : Txe K mg T) (Fo : FormsOk P w K mg) : C8.Cal P w K mg base 53 "_law_program_of" (spProgOf K T.C_Program) [] := by
  have nd := sc_prof.nd
  have c__law_draw := draw_ok (P := P) (w := w) (base := base) T
  have c__law_relisted := rel_ok (P := P) (w := w) (base := base) T 19
  have m_Program := progi_ok (P := P) (w := w) (base := base) T Te Fo
  refine calD T.d__law_program_of sc_prof (fun vs H Q E h => ?_) (fun f cdv A outer s0 H vs Q E hr h => ?_)
  · obtain ⟨p, v, N, k, b, n, rfl, _⟩ := h
    rfl
  obtain ⟨p, v, N, k, b, n, rfl, hP, hv, hp, hn, q⟩ := h
  have hu := hu_of hr
  refine ⟨_, (pss_cons (ps_if (pt_cmpR op_eq (pe_c c__law_draw hr (by omega) rfl (pa_cons (pv 0) (pa_cons pe_int pa_nil))) pe_int (nomark _)) (pss_one (ps_ret (pe_mk m_Program hr (by omega) rfl (pa_cons pe_str (pa_cons (pe_c c__law_relisted hr (by omega) rfl (pa_cons (pv 0) (pa_cons (pe_ixc ix_tup (pv 1)) pa_nil))) (pa_cons (pe_c c__law_relisted hr (by omega) rfl (pa_cons (pv 0) (pa_cons (pe_ixc ix_tup (pv 1)) pa_nil))) pa_nil)))))) pss_nil)
  (pss_one (ps_ret (pe_mk m_Program hr (by omega) rfl (pa_cons pe_str (pa_cons (pe_ixc ix_tup (pv 1)) (pa_cons (pe_ixc ix_tup (pv 1)) pa_nil))))))), ?_⟩
  have nl := hP.nm.len
  have hkN := hP.k
  have hsz := hP.size
  have hdp := hP.dp
  have bdp := blk_dep b
  have tl : (N.take k).length = k := by rw [List.length_take]; omega
  have bct := b.cntA false hP.ok
  have bt : tups b.enc = tupsA b.encs + 1 := by rw [Blk.enc, tups]
  have tuE : tu (prEnc N k b) = true := by
    show tuA [.tuple ((N.take k).map .str), b.enc] = true
    rw [tuA, tuA, b.tu, tu, strs_tu]
    rfl
  -- the object is made of such rows
  have make : ∀ (x y : V) (d e : PyData) (m : Nat) (H2 : Hp), Kp [p] H H2 → PenAt H2 p m → m ≤ n + 500 → Dp K H2 x d → norm d = .tuple ((N.take k).map PyData.str) → Dp K H2 y e → norm e = b.enc →
      ∀ pr dx, H2 pr = none → H2 dx = none → dx ≠ pr → spProgI K T.C_Program (.ref pr :: [.str "p", x, y]) (upd (upd H2 dx (.own pr)) pr (.ins T.C_Program dx [])) (fun v H3 => v = .non ∧ Q (.ref pr) H3) (fun _ _ _ => False) := fun x y d e m H2 k2 hp2 hm hd hdn he hen pr dx h1 h2 ne => by
    have k3 : Kp [] H2 (upd (upd H2 dx (.own pr)) pr (.ins T.C_Program dx [])) := (Kp.new h2).trans (Kp.new (by rw [upd_ne ne.symm]; exact h1))
    refine ⟨pr, dx, x, y, N, k, b, d, e, rfl, upd_same, hP, k3.dp FreeS.nil hd, hdn, k3.dp FreeS.nil he, hen, fun H4 k4 hPA => ⟨rfl, ?_⟩⟩
    have k24 : Kp [] H2 H4 := fun g o hg1 hg2 => k4 g o (by simpa using ne_of_none hg2 h1) (k3 g o hg1 hg2)
    exact q pr H4 (k2.trans k24.all) ((hp2.kp0 k24).le hm) hPA
  refine ⟨_, rfl, p, _, n, rfl, hp, by omega, by decide, by decide, fun r H1 r0 r1 k1 hp1 => ?_⟩
  have v1 := k1.dp hp.frees hv
  refine ⟨rfl, _, rfl, ?_⟩
  refine ite2 (fun _ => ?_) (fun _ => ?_)
  · refine ⟨_, rfl, _, rfl, ?_⟩
    refine ixd (i := 0) v1 rfl fun x hx => ?_
    have s0 : tups (.tuple ((N.take k).map PyData.str)) = 1 := by rw [tups, strs_tups]
    refine ⟨p, x, _, n + 1, rfl, hx, by rw [tu]; exact strs_tu _, slim_t (by rw [List.length_map]; omega) (strs_slim _), by rw [PyData.depth, strs_dep]; omega, hp1, by rw [s0]; omega, fun x2 d2 H2 hdn hd2 k2 hp2 => ?_⟩
    rw [s0] at hp2
    have hd2' := hideL_out hd2
    have v2 := k2.dpT hp1.frees.t tuE v1
    refine ⟨_, rfl, _, rfl, ?_⟩
    refine ixd (i := 1) v2 rfl fun y hy => ?_
    refine ⟨p, y, _, n + 1 + 1, rfl, hy, b.tu, blk_slim b (by omega), by omega, hp2, by omega, fun y2 e2 H3 hen he2 k3 hp3 => ?_⟩
    exact make x2 y2 d2 e2 _ H3 (k1.trans (k2.trans k3)) hp3 (by omega) (k3.dp hp2.frees hd2') hdn (hideL_out he2) hen
  · refine ⟨_, rfl, ?_⟩
    refine ixd (i := 0) v1 rfl fun x hx => ?_
    refine ⟨_, rfl, ?_⟩
    refine ixd (i := 1) v1 rfl fun y hy => ?_
    exact make x y _ _ _ H1 k1 hp1 (by omega) hx (norm_id _ (by rw [tu]; exact strs_tu _)) hy (norm_id _ b.tu)
end
end Sv
end
section
set_option Elab.async false
set_option linter.all false
set_option autoImplicit false
set_option maxRecDepth 100000
/-! W42: facts for the law's end. -/
namespace Sv
open PySem PySem.Spec PyProof.Rows L2
/-! ### data of the law's wrong rows -/
theorem eqvAll_len : ∀ (a b : List PyData), a.length ≠ b.length → PyData.eqvAll a b = false
  | [], [], h => (h rfl).elim
  | [], _ :: _, _ => eqvAll_nc _ _
  | _ :: _, [], _ => eqvAll_cn _ _
  | x :: a, y :: b, h => by rw [eqvAll_cons, eqvAll_len a b (fun z => h (by rw [List.length_cons, List.length_cons, z])), Bool.and_false]
theorem eqvAll_ints : ∀ l : List Int, PyData.eqvAll (l.map PyData.int) (l.map PyData.int) = true
  | [] => eqvAll_nil
  | x :: l => by rw [List.map_cons, eqvAll_cons, eqv_int, eqvAll_ints l, decide_eq_true rfl]; rfl
theorem eqv_lst (a b : List PyData) : PyData.eqv (.list a) (.list b) = PyData.eqvAll a b := by simp only [PyData.eqv]
theorem eqv_rows : ∀ l : List (List Int), PyData.eqvAll (l.map intsD) (l.map intsD) = true
  | [] => eqvAll_nil
  | x :: l => by
    rw [List.map_cons, eqvAll_cons, eqv_rows l]
    unfold intsD
    rw [eqv_tup, eqvAll_ints]
    rfl
theorem ints_lay : ∀ l : List Int, PyData.canLayAll0 (l.map PyData.int) = true
  | [] => by simp [PyData.canLayAll0]
  | x :: l => by rw [List.map_cons]; simp [PyData.canLayAll0, PyData.canLay0, ints_lay l]
theorem ints_dep0 : ∀ l : List Int, PyData.depthAll (l.map PyData.int) = 0
  | [] => by rw [List.map_nil, PyData.depthAll]
  | x :: l => by rw [List.map_cons, PyData.depthAll, ints_dep0 l, PyData.depth]; rfl
theorem intsD_dep (l : List Int) : (intsD l).depth = 1 := by unfold intsD; rw [PyData.depth, ints_dep0]
theorem rows_dep : ∀ l : List (List Int), PyData.depthAll (l.map intsD) ≤ 1
  | [] => by rw [List.map_nil, PyData.depthAll]; exact Nat.zero_le _
  | x :: l => by
    have := rows_dep l
    rw [List.map_cons, PyData.depthAll, intsD_dep]
    omega
theorem rows_lay : ∀ l : List (List Int), PyData.canLayAll0 (l.map intsD) = true
  | [] => by simp [PyData.canLayAll0]
  | x :: l => by
    rw [List.map_cons]
    simp [PyData.canLayAll0, intsD, PyData.canLay0, ints_lay x]
    exact rows_lay l
theorem shaped_ints (l : List Int) : SeqAt.shaped (.list (l.map PyData.int)) = true := by
  unfold SeqAt.shaped
  rw [PyData.depth, ints_dep0]
  simp [PyData.canLay0, ints_lay l]
theorem shaped_rows (l : List (List Int)) : SeqAt.shaped (.list (l.map intsD)) = true := by
  unfold SeqAt.shaped
  have := rows_dep l
  rw [PyData.depth, decide_eq_true (by omega)]
  simp [PyData.canLay0, rows_lay l]
theorem shaped_pair {x : Str} {d : PyData} (hx : PyData.canLay0 (.str x) = true) (h : SeqAt.shaped d = true) (hd : d.depth ≤ 63) : SeqAt.shaped (.tuple [.str x, d]) = true := by
  unfold SeqAt.shaped at *
  rw [Bool.and_eq_true] at h
  rw [PyData.depth, PyData.depthAll, PyData.depthAll, PyData.depthAll, PyData.depth, decide_eq_true (by omega)]
  simp only [PyData.canLay0, PyData.canLayAll0, Bool.and_true] at *
  rw [hx, h.1]
  rfl
theorem eqv_pair {x : Str} {d : PyData} (h : PyData.eqv d d = true) : PyData.eqv (.tuple [.str x, d]) (.tuple [.str x, d]) = true := by
  rw [eqv_tup, eqvAll_cons, eqvAll_cons, eqvAll_nil, eqv_str, h, decide_eq_true rfl]
  rfl
/-- what holds of rows that are none -/
structure WrongD (k : Nat) (rows : List (List Int)) (d : PyData) : Prop where
  no : okRows k d = false
  ne : PyData.eqv d (.list (rows.map intsD)) = false
  eq : PyData.eqv d d = true
  sh : SeqAt.shaped d = true
  dp : d.depth ≤ 63
  dl : dlen d ≤ 1000
def nineD : PyData := .tuple (List.replicate 9 (.int 1))
theorem intsD_not {k : Nat} {rows : List (List Int)} {d : PyData} (hr : ∀ is ∈ rows, is.length = k) (hd : ∀ is : List Int, is.length = k → PyData.eqv d (intsD is) = false) : PyData.eqv (.list [d]) (.list (rows.map intsD)) = false := by
  rw [eqv_lst]
  cases rows with
  | nil => exact eqvAll_cn _ _
  | cons is r => rw [List.map_cons, eqvAll_cons, hd is (hr is List.mem_cons_self), Bool.false_and]
theorem wrong_none {k : Nat} {rows : List (List Int)} : WrongD k rows .none := ⟨rfl, by simp [PyData.eqv], by simp [PyData.eqv], by decide +kernel, by decide +kernel, by decide +kernel⟩
theorem wrong_lnone {k : Nat} {rows : List (List Int)} (hr : ∀ is ∈ rows, is.length = k) : WrongD k rows (.list [.none]) := ⟨rfl, intsD_not hr fun is _ => by simp [intsD, PyData.eqv], by simp [PyData.eqv, PyData.eqvAll], by decide +kernel, by decide +kernel, by decide +kernel⟩
theorem wrong_lstr {k : Nat} {rows : List (List Int)} (hr : ∀ is ∈ rows, is.length = k) : WrongD k rows (.list [.str "1"]) := ⟨rfl, intsD_not hr fun is _ => by simp [intsD, PyData.eqv], by simp [PyData.eqv, PyData.eqvAll], by decide +kernel, by decide +kernel, by decide +kernel⟩
theorem wrong_lint {k : Nat} {rows : List (List Int)} (hr : ∀ is ∈ rows, is.length = k) : WrongD k rows (.list [.int 3]) := ⟨rfl, intsD_not hr fun is _ => by simp [intsD, PyData.eqv], by simp [PyData.eqv, PyData.eqvAll], by decide +kernel, by decide +kernel, by decide +kernel⟩
theorem wrong_nine {k : Nat} {rows : List (List Int)} (hk : k ≤ 3) (hr : ∀ is ∈ rows, is.length = k) : WrongD k rows (.list [nineD]) := by
  refine ⟨?_, intsD_not hr fun is hi => ?_, ?_, by decide +kernel, by decide +kernel, by decide +kernel⟩
  · show ([nineD].all (okIn k)) = false
    have : okIn k nineD = false := by
      unfold nineD
      rw [okIn, decide_eq_false (by rw [List.length_replicate]; omega), Bool.false_and]
    rw [List.all_cons, this, Bool.false_and]
  · unfold nineD intsD
    rw [eqv_tup]
    exact eqvAll_len _ _ (by rw [List.length_replicate, List.length_map]; omega)
  · decide +kernel
theorem okIn_of {k : Nat} {d : PyData} {is : List Int} (h : norm d = intsD is) (hl : is.length = k) : okIn k d = true := by
  have key : ∀ (ds : List PyData) (is : List Int), ds.map norm = is.map PyData.int → ds.all isI = true := by
    intro ds
    induction ds with
    | nil => intro _ _; rfl
    | cons x ds ih =>
      intro is h
      cases is with
      | nil => cases h
      | cons i is =>
        injection h with h1 h2
        rw [List.all_cons, ih is h2, norm_int h1]
        rfl
  obtain ⟨ds, h1, h2⟩ := norm_seq h
  have l := congrArg List.length h2
  rw [List.length_map, List.length_map] at l
  cases d with
  | list es =>
    cases h1
    rw [okIn, decide_eq_true (by omega), key _ is h2]
    rfl
  | tuple es =>
    cases h1
    rw [okIn, decide_eq_true (by omega), key _ is h2]
    rfl
  | _ => cases h1
theorem okRows_of {k : Nat} {d : PyData} {rows : List (List Int)} (h : norm d = .tuple (rows.map intsD)) (hr : ∀ is ∈ rows, is.length = k) : okRows k d = true ∧ dlen d = rows.length := by
  have key : ∀ (ds : List PyData) (rows : List (List Int)), (∀ is ∈ rows, is.length = k) → ds.map norm = rows.map intsD → ds.all (okIn k) = true := by
    intro ds
    induction ds with
    | nil => intro _ _ _; rfl
    | cons x ds ih =>
      intro rows hr h
      cases rows with
      | nil => cases h
      | cons i is =>
        injection h with h1 h2
        rw [List.all_cons, ih is (fun z hz => hr z (List.mem_cons_of_mem _ hz)) h2, okIn_of h1 (hr i List.mem_cons_self)]
        rfl
  obtain ⟨ds, h1, h2⟩ := norm_seq h
  have l := congrArg List.length h2
  rw [List.length_map, List.length_map] at l
  cases d with
  | list es =>
    cases h1
    exact ⟨key _ rows hr h2, l⟩
  | tuple es =>
    cases h1
    exact ⟨key _ rows hr h2, l⟩
  | _ => cases h1
/-! ### the table of code objects, kept -/
section
variable {K : PySem.W.Frag} {H H' : Hp} {p : Pn} {n : Nat} {Pt : Addr} {q : Str}
theorem tab_kp (t : LamX.TabS H Pt q) (hp : PenAt H p n) (k : Kp [p.a] H H') : LamX.TabS H' Pt q := by
  obtain ⟨ps, h1, h2, h3⟩ := t
  obtain ⟨kvs, hd⟩ := hp.dK
  refine ⟨ps, k.at h1 ?_, h2, fun pos cv hc => ?_⟩
  · rw [List.mem_singleton]
    exact ne_of h1 hd (by intro z; cases z)
  · obtain ⟨c, e1, e2⟩ := h3 pos cv hc
    refine ⟨c, e1, k.at e2 ?_⟩
    rw [List.mem_singleton]
    refine ne_of e2 hd ?_
    intro z
    unfold LamX.CodeO at z
    cases z
theorem ext_sqL {a : Addr} {xs : List V} (x : LamX.ExtN H H') (h : SqL K H a xs) : SqL K H' a xs := by
  rcases h with (h | ⟨o, h⟩) | h
  · exact .inl (.inl (x _ _ h fun ps z => by cases z))
  · exact .inl (.inr ⟨o, x _ _ h fun ps z => by cases z⟩)
  · exact .inr h
theorem ext_sqT {a : Addr} {xs : List V} (x : LamX.ExtN H H') (h : SqT K H a xs) : SqT K H' a xs := by
  rcases h with (h | ⟨o, h⟩) | h
  · exact .inl (.inl (x _ _ h fun ps z => by cases z))
  · exact .inl (.inr ⟨o, x _ _ h fun ps z => by cases z⟩)
  · exact .inr h
theorem ext_dp {v : V} {d : PyData} (x : LamX.ExtN H H') (h : Dp K H v d) : Dp K H' v d := dp_mono (fun _ _ q => ext_sqL x q) (fun _ _ q => ext_sqT x q) d v h
theorem ext_pen (x : LamX.ExtN H H') (h : PenAt H p n) : PenAt H' p n := by
  obtain ⟨a, d, c, f, cells, hp⟩ := h.ex
  exact ⟨a, d, c, f, cells, ⟨x _ _ hp.hp fun ps z => (by cases z), x _ _ hp.hl fun ps z => (by cases z), hp.a0, hp.a1, hp.d0, hp.c0, hp.c1, hp.f0, hp.f1⟩⟩
theorem ext_prog {CP pr : Addr} {N : List Str} {k : Nat} {b : Blk} (x : LamX.ExtN H H') (h : ProgAt K CP H pr N k b) : ProgAt K CP H' pr N k b := by
  obtain ⟨dx, ti, vb, h1, h2, h3⟩ := h.ex
  exact ⟨dx, ti, vb, x _ _ h1 fun ps z => (by cases z), ext_sqT x h2, ext_dp x h3⟩
end
end Sv
end
section
set_option Elab.async false
set_option linter.all false
set_option autoImplicit false
set_option maxRecDepth 100000
/-! W43: the law. -/
namespace Sv
open PySem PySem.Spec PyProof.Rows L2
open C8 (pe_c pe_mt pe_mt0 pe_mk pe_gc)
def spLaw (K : PySem.W.Frag) (Pt : Addr) : Sp := fun vs H Q _ => ∃ (a : Addr) (ns : List Int), vs = [.ref a] ∧ SqL K H a (ns.map V.int) ∧ ns.length ≤ 63 ∧ H Pt = some (.tbl #[]) ∧ ∀ H', Q (.bl true) H'
abbrev lawCx (P : Program) (w : World) (K : PySem.W.Frag) (mg : Str → Option Value) (base : Heap) (fa : Addr) (cdv : Value) (A : Around) (outer : List Env) (s0 : Shared) (H : Hp) (E : XK) : Cx := (cxOf C8.CX0 P w K mg base ["_law_script", "_law_pen_here", "_law_lap", "_law_program", "_law_made", "_law_graph_here", "_law_rows", "_law_turns", "_law_told", "_law_due", "_law_done", "_law_wrong", "_law_less", "_law_k", "_law_number"] "law" (C8.fnScope (topS 93)) fa cdv A outer s0 H E).nox
theorem sc_law : FnScope ["_law_script", "_law_pen_here", "_law_lap", "_law_program", "_law_made", "_law_graph_here", "_law_rows", "_law_turns", "_law_told", "_law_due", "_law_done", "_law_wrong", "_law_less", "_law_k", "_law_number"] ["_law_script"] (C8.fnScope (topS 93)) := C8.fnScope_by (by decide +kernel)
theorem progC_val : progC = 1401 := by decide +kernel
theorem prEnc_tu (N : List Str) (k : Nat) (b : Blk) : tu (prEnc N k b) = true := by
  show tuA [.tuple ((N.take k).map .str), b.enc] = true
  rw [tuA, tuA, b.tu, tu, strs_tu]
  rfl
/-- what holds of turns that are none -/
structure LessD (d : PyData) : Prop where
  no : ok0 d = false
  ne : PyData.eqv d (.int 5) = false
  eq : PyData.eqv d d = true
  sh : SeqAt.shaped d = true
  dp : d.depth ≤ 63
/-- what a lap has made -/
structure LapSt (K : PySem.W.Frag) (CP : Addr) (H : Hp) (p : Pn) (v : V) (N : List Str) (k : Nat) (b : Blk) (pr m : Addr) : Prop where
  v : Dp K H v (prEnc N k b)
  pr : ProgAt K CP H pr N k b
  made : MadeAt K H m (graphOf b).1 (graphOf b).2
  ne : m ≠ p.a
section
variable {K : PySem.W.Frag} {CP pr m a R : Addr} {H H' : Hp} {p : Pn} {n : Nat} {v : V} {N : List Str} {k : Nat} {b : Blk} {rows : List (List Int)} {xs : List V}
theorem pen_free (hp : PenAt H p n) : FreeS [p.a] H := hp.frees
theorem LapSt.kp (h : LapSt K CP H p v N k b pr m) (hp : PenAt H p n) (kk : Kp [p.a] H H') : LapSt K CP H' p v N k b pr m := by
  have fr := pen_free hp
  obtain ⟨kvs, hd⟩ := hp.dK
  obtain ⟨dx, ti, vb, h1, h2, h3⟩ := h.pr.ex
  obtain ⟨l, ys, hm⟩ := h.made.ex
  refine ⟨kk.dp fr h.v, ⟨dx, ti, vb, kk.at h1 ?_, kk.sqT fr.t h2, kk.dp fr h3⟩, ⟨l, ys, ⟨kk.at hm.hm ?_, kk.at hm.hl ?_, kk.dpA fr hm.ha⟩⟩, h.ne⟩
  · rw [List.mem_singleton]
    exact ne_of h1 hd (by intro z; cases z)
  · rw [List.mem_singleton]
    exact h.ne
  · rw [List.mem_singleton]
    exact ne_of hm.hl hd (by intro z; cases z)
theorem lst_kp (h : H R = some (.lst xs)) (hp : PenAt H p n) (kk : Kp [p.a] H H') : H' R = some (.lst xs) := by
  obtain ⟨kvs, hd⟩ := hp.dK
  refine kk.at h ?_
  rw [List.mem_singleton]
  exact ne_of h hd (by intro z; cases z)
theorem tup_kp (h : H R = some (.tup xs)) (hp : PenAt H p n) (kk : Kp [p.a] H H') : H' R = some (.tup xs) := by
  obtain ⟨kvs, hd⟩ := hp.dK
  refine kk.at h ?_
  rw [List.mem_singleton]
  exact ne_of h hd (by intro z; cases z)
theorem rows_kp (h : RowsAt K H R rows) (hp : PenAt H p n) (kk : Kp [p.a] H H') : RowsAt K H' R rows := by
  obtain ⟨ys, h1, h2⟩ := h
  exact ⟨ys, lst_kp h1 hp kk, kk.dpA (pen_free hp) h2⟩
end
section
variable {P : Program} {w : World} {K : PySem.W.Frag} {mg : Str → Option Value} {base : Heap}
theorem law_ok (T : Txt K mg) (Te : Txe K mg T) (Fo : FormsOk P w K mg) (Ex : Txx K mg) (Fx : Txg K mg Ex) (hne : T.C_Graph ≠ T.C_Edge) {fa : Addr} {fd : FuncData} {c Pt : Addr} (F : C8.Fun K "law" "law" (topS 93) fa fd) (hc : fd.code = .ref c) (TB : LamX.TabB base mg c Pt) :
    FnOk P w K mg base C8.CX0 60 fa fd ["_law_script"] (spLaw K Pt) := by
  have nd := sc_law.nd
  have c__law_pen := pen_ok (P := P) (w := w) (base := base) T
  have c__law_draw := draw_ok (P := P) (w := w) (base := base) T
  have c__law_pick := pick_ok (P := P) (w := w) (base := base) T
  have c__law_some_program := prog_ok (P := P) (w := w) (base := base) T
  have c__law_program_of := prof_ok (P := P) (w := w) (base := base) T Te Fo
  have c__law_graph := graph_ok (P := P) (w := w) (base := base) T
  have c__law_inputs := inputs_ok (P := P) (w := w) (base := base) T
  have c__law_relisted := rel_ok (P := P) (w := w) (base := base) T 10
  have c_counts := counts_ok (P := P) (w := w) (base := base) T Te Ex hne
  have c__law_is_int := lisint_ok (P := P) (w := w) (base := base) T
  have c__law_counted := counted_ok (P := P) (w := w) (base := base) T
  have c__law_flows := flows_ok (P := P) (w := w) (base := base) T
  obtain ⟨ff, ffd, FF, fb⟩ := T.d__law_fault.ex
  obtain ⟨foc, fod, fdV, fkV, fdoc, fpm, fan, fcdv, fct, fosl, rfl, lkf, hcdf⟩ := FF.fn.ex
  obtain ⟨oc, od, dV, kV, doc, pm, an, cdv, ct, osl, rfl, lk, hcd⟩ := F.ex
  have hcode : cdv = .ref c := hc
  refine fn_of lk hcd sc_law (fun vs H Q E h => ?_) fun A outer s0 H vs Q E hr h => ?_
  · obtain ⟨a, ns, rfl, _⟩ := h
    rfl
  obtain ⟨a, ns, rfl, hq, hns, hPt, q⟩ := h
  have hu := hu_of hr
  suffices hh : ∃ t, PSs (cxOf C8.CX0 P w K mg base ["_law_script", "_law_pen_here", "_law_lap", "_law_program", "_law_made", "_law_graph_here", "_law_rows", "_law_turns", "_law_told", "_law_due", "_law_done", "_law_wrong", "_law_less", "_law_k", "_law_number"] "law" (C8.fnScope (topS 93)) fa cdv A outer s0 H E).nox (C8.fnBody (topS 93)) t ∧ t { nx := fun _ H' => Q .non H', rt := Q } (L2.start ["_law_script", "_law_pen_here", "_law_lap", "_law_program", "_law_made", "_law_graph_here", "_law_rows", "_law_turns", "_law_told", "_law_due", "_law_done", "_law_wrong", "_law_less", "_law_k", "_law_number"] [.ref a]) H from
    let ⟨t, h, q⟩ := hh
    ⟨t, h.nox, q⟩
  refine ⟨_, (pss_cons (ps_asg (pe_c c__law_pen hr (by omega) rfl (pa_cons (pv 0) pa_nil)) (pg_name (i := 1) nd rfl (Or.inr rfl)))
  (pss_cons (ps_for PassesOwn.never rfl (pi_range1 rfl T.z_range (pa_cons pe_int pa_nil)) (pg_name (i := 2) nd rfl (Or.inl rfl))
    (pss_cons (ps_asg (pe_c c__law_some_program hr (by omega) rfl (pa_cons (pv 1) pa_nil)) (pg_name (i := 3) nd rfl (Or.inr rfl)))
  (C8.pss_cut (ps_asg (pe_tup (pa_cons (pe_c c__law_program_of hr (by omega) rfl (pa_cons (pv 1) (pa_cons (pv 3) pa_nil))) (pa_cons (pe_c c__law_graph hr (by omega) rfl (pa_cons (pv 3) pa_nil)) pa_nil))) (pg_tup rfl (pgs_cons (pg_name (i := 4) nd rfl (Or.inr rfl)) (pgs_cons (pg_name (i := 5) nd rfl (Or.inl rfl)) pgs_nil))))
  (C8.pss_cut (ps_setLc (i := 6) (own := [("_law_k", 13)]) rfl nd rfl rfl (sw_true rfl rfl rfl (by decide +kernel)) (pi_range1 rfl T.z_range (pa_cons (pe_c c__law_draw hr (by omega) rfl (pa_cons (pv 1) (pa_cons pe_int pa_nil))) pa_nil)) (blkOk_by (N := ["_law_script", "_law_pen_here", "_law_lap", "_law_program", "_law_made", "_law_graph_here", "_law_rows", "_law_turns", "_law_told", "_law_due", "_law_done", "_law_wrong", "_law_less", "_law_k", "_law_number"]) (sc := C8.fnScope (topS 93)) (by decide +kernel)) (fun _ _ _ _ _ => (pg_name (i := 13) nd rfl (Or.inl rfl))) (fun _ _ _ _ _ => pts_nil) (fun _ _ _ _ _ => (pe_c c__law_inputs hr (by omega) rfl (pa_cons (pv 1) (pa_cons (pv 3) pa_nil)))))
  (C8.pss_cut (ps_asg (pe_op op_cat (pv 6) (pe_slT_lst (pv 6) (pe_c c__law_draw hr (by omega) rfl (pa_cons (pv 1) (pa_cons pe_int pa_nil))))) (pg_name (i := 6) nd rfl (Or.inl rfl)))
  (C8.pss_cut (ps_asg (pe_c c__law_pick hr (by omega) rfl (pa_cons (pv 1) (pa_cons (pe_lst (pa_cons (pe_c c__law_draw hr (by omega) rfl (pa_cons (pv 1) (pa_cons pe_int pa_nil))) (pa_cons pe_int (pa_cons pe_int pa_nil)))) pa_nil))) (pg_name (i := 7) nd rfl (Or.inl rfl)))
  (C8.pss_cut (ps_asg (pe_cx (E := fun _ _ _ => False) c_counts hr (by omega) rfl (passes_call LamX.takes0 fun _ _ _ _ h => h) (pa_cons (pv 4) (pa_cons (pe_c c__law_relisted hr (by omega) rfl (pa_cons (pv 1) (pa_cons (pe_callTy (T := "tuple") call_tuple_of (by rfl) T.z_tuple (by decide +kernel) (pa_cons (pv 6) pa_nil)) pa_nil))) (pa_cons (pv 7) pa_nil)))) (pg_name (i := 8) nd rfl (Or.inl rfl)))
  (pss_cons (ps_if (pt_mid (PW.pt (pw_or (pt_not (pt_val (pe_callB (id := "isinstance") call_isi (by rfl) T.z_isinstance (by decide +kernel) (pa_cons (pv 8) (pa_cons (pe_bltn (v := .ty "tuple") rfl T.z_tuple (by decide +kernel) rfl) pa_nil))))) (pw_or1 (pt_cmpR (op_neD hr.units) (pe_lc (own := [("_law_number", 14)]) rfl nd (pi_tup (pv 8)) (blkOk_by (N := ["_law_script", "_law_pen_here", "_law_lap", "_law_program", "_law_made", "_law_graph_here", "_law_rows", "_law_turns", "_law_told", "_law_due", "_law_done", "_law_wrong", "_law_less", "_law_k", "_law_number"]) (sc := C8.fnScope (topS 93)) (by decide +kernel)) (fun _ _ _ _ _ => (pg_name (i := 14) nd rfl (Or.inl rfl))) (fun _ _ _ _ _ => pts_one (pt_not (pt_val (pe_c c__law_is_int hr (by omega) rfl (pa_cons (pv 14) pa_nil))))) (fun _ _ _ _ _ => (pv 14))) (pe_lst pa_nil) (nomark _)))))) (pss_one (ps_ret pe_bl)) pss_nil)
  (C8.pss_cut (ps_asg (pe_c c__law_counted hr (by omega) rfl (pa_cons (pv 3) (pa_cons (pv 5) (pa_cons (pv 6) (pa_cons (pv 7) pa_nil))))) (pg_tup rfl (pgs_cons (pg_name (i := 9) nd rfl (Or.inl rfl)) (pgs_cons (pg_name (i := 10) nd rfl (Or.inl rfl)) pgs_nil))))
  (pss_cons (ps_if (pt_mid (PW.pt (pw_or (pt_cmpR (op_neD hr.units) (pe_callTy (T := "list") call_list_of (by rfl) T.z_list (by decide +kernel) (pa_cons (pv 8) pa_nil)) (pv 9) (nomark _)) (pw_or1 (PW.pt (pw_and (pt_cmpR op_eq (pv 10) (pe_callB (id := "len") call_len_seq (by rfl) T.z_len PySem.boot_len (pa_cons (pv 6) pa_nil)) (nomark _)) (pw_and1 (pt_not (pt_val (pe_c c__law_flows hr (by omega) rfl (pa_cons (pv 5) (pa_cons (pv 8) (pa_cons (pv 10) pa_nil))))))))))))) (pss_one (ps_ret pe_bl)) pss_nil)
  (C8.pss_cut (ps_asg (pe_tup (pa_cons (pe_c c__law_pick hr (by omega) rfl (pa_cons (pv 1) (pa_cons (pe_lst (pa_cons pe_non (pa_cons (pe_lst (pa_cons pe_non pa_nil)) (pa_cons (pe_lst (pa_cons (pe_op op_repT (pe_tup (pa_cons pe_int pa_nil)) pe_int) pa_nil)) (pa_cons (pe_lst (pa_cons pe_str pa_nil)) (pa_cons (pe_lst (pa_cons pe_int pa_nil)) (pa_cons (pv 6) pa_nil))))))) pa_nil))) (pa_cons (pe_c c__law_pick hr (by omega) rfl (pa_cons (pv 1) (pa_cons (pe_lst (pa_cons (pe_un un_neg pe_int) (pa_cons pe_non (pa_cons pe_bl (pa_cons pe_int pa_nil))))) pa_nil))) pa_nil))) (pg_tup rfl (pgs_cons (pg_name (i := 11) nd rfl (Or.inr rfl)) (pgs_cons (pg_name (i := 12) nd rfl (Or.inr rfl)) pgs_nil))))
  (C8.pss_cut (ps_asg (pe_ifExp (pt_cmpR (op_neD hr.units) (pv 12) pe_int (nomark _)) (pe_tup (pa_cons pe_str (pa_cons (pv 12) pa_nil))) pe_non) (pg_name (i := 9) nd rfl (Or.inl rfl)))
  (C8.pss_cut (ps_asg (pe_ifExp (pt_cmpR (op_neD hr.units) (pv 11) (pv 6) (nomark _)) (pe_tup (pa_cons pe_str (pa_cons (pv 11) pa_nil))) (pv 9)) (pg_name (i := 9) nd rfl (Or.inl rfl)))
  (pss_one (ps_if (pt_cmpR (op_neD hr.units) (LamX.pe_lamcall (T := [(Pt, _)]) (TT := TFault Ex.C_Row Ex.C_Num) (k := 36) (t := fun E => tCall (spCounts K T.C_Program Ex.C_Row Ex.C_Num) [] E (tCons (tVar 4) (tCons (tVar 11) (tCons (tVar 12) tNil)))) rfl FF.mgf FF.kp lkf hcdf fb sc_fault rfl (Or.inl rfl) (fault_gives (X := lawCx P w K mg base fa cdv A outer s0 H E) Ex Fx) TB hcode (List.mem_singleton.mpr rfl) (fun p hp _ => congrArg Prod.snd (List.mem_singleton.mp hp)) (hr.mono (by omega)) (LamX.lamS_by (sc := C8.fnScope (topS 93)) (by decide +kernel)) rfl (fun _ _ _ _ _ => rfl) (fun A outer s H E f c' hr2 => pe_cx c_counts hr2 (by omega) rfl (passes_call (takes_of rfl rfl rfl rfl) fun _ _ _ _ h => h) (pa_cons (pv 4) (pa_cons (pv 11) (pa_cons (pv 12) pa_nil))))) (pv 9) (nomark _)) (pss_one (ps_ret pe_bl)) pss_nil)))))))))))))))
  (pss_one (ps_ret pe_bl)))), ?_⟩
  -- the pen
  refine ⟨_, rfl, a, ns, rfl, hq, hns, fun p H1 k1 pa0 pl0 hp1 => ?_⟩
  have ht1 : LamX.TabS H1 Pt ((lawCx P w K mg base fa cdv A outer s0 H E).env.qual ++ "<lambda>") := LamX.TabS.nil (k1.at hPt (by simp))
  generalize hq0 : (lawCx P w K mg base fa cdv A outer s0 H E).env.qual ++ "<lambda>" = q0 at ht1
  have hpm : penMax = 1000000 := rfl
  refine ⟨_, rfl, by decide, by decide, ?_⟩
  refine for_range (n := (2 : Int).toNat) (fun i σ H' => ∃ v2 v3 v4 v5 v6 v7 v8 v9 v10 v11 v12 v13 v14 : Option V, σ = [some (.ref a), some (.ref p.a), v2, v3, v4, v5, v6, v7, v8, v9, v10, v11, v12, v13, v14] ∧ PenAt H' p (i * 2401) ∧ LamX.TabS H' Pt q0)
    ⟨_, _, _, _, _, _, _, _, _, _, _, _, _, rfl, by rw [Nat.zero_mul]; exact hp1, ht1⟩ ?_ ?_
  · rintro i _ H2 hi ⟨v2, v3, v4, v5, v6, v7, v8, v9, v10, v11, v12, v13, v14, rfl, hp2, ht2⟩
    have hi2 : i < 2 := hi
    -- the program
    refine ⟨_, rfl, p, i * 2401, rfl, hp2, by rw [progC_val]; omega, fun N k b v H3 hP hv k3 hp3 => ?_⟩
    rw [progC_val] at hp3
    have ht3 := tab_kp ht2 hp2 k3
    have hbound : i * 2401 + 1401 + 1000 ≤ penMax := by omega
    have hnext : (i + 1) * 2401 = i * 2401 + 1401 + 1000 := by omega
    rw [hnext]
    generalize i * 2401 + 1401 = n3 at *
    -- the object, the graph
    refine ⟨fun σ' H' => ∃ pr m v6' , σ' = [some (.ref a), some (.ref p.a), some (.int (0 + (i : Nat))), some v, some (.ref pr), some (.ref m), v6', v7, v8, v9, v10, v11, v12, v13, v14] ∧ Kp [p.a] H3 H' ∧ PenAt H' p (n3 + 500) ∧ LapSt K T.C_Program H' p v N k b pr m, ?_, ?_⟩
    · refine ⟨_, rfl, _, rfl, p, v, N, k, b, n3, rfl, hP, hv, hp3, by omega, fun pr H4 k4 hp4 hpr => ?_⟩
      refine ⟨_, rfl, v, N, k, b, rfl, hP, k4.dp (pen_free hp3) hv, fun m H5 k5 hm0 hM => ?_⟩
      refine ⟨(by show 2 ≤ sizeLine; decide), fun t ht => ?_⟩
      have kt : Kp [] H5 (upd H5 t (.tup [.ref pr, .ref m])) := Kp.new ht
      have k35 : Kp [p.a] H3 (upd H5 t (.tup [.ref pr, .ref m])) := k4.trans ((k5.trans kt).all)
      obtain ⟨kvs4, hd4⟩ := hp4.dK
      refine ⟨t, _, rfl, SqT.of upd_same, rfl, _, _, rfl, _, _, rfl, rfl, pr, m, _, rfl, k35, (hp4.kp0 k5).new ht, k35.dp (pen_free hp3) hv, hpr.kp0 (k5.trans kt), hM.new ht, ?_⟩
      intro z
      rw [z, hd4] at hm0
      cases hm0
    rintro _ H4 ⟨pr, m, v6', rfl, k4, hp4, hL4⟩
    have ht4 := tab_kp ht3 hp3 k4
    have tl : (N.take k).length = k := by have := hP.k; rw [List.length_take]; omega
    have nl := hP.nm.len
    have hkN := hP.k
    -- the rows
    refine ⟨fun σ' H' => ∃ R rows, σ' = [some (.ref a), some (.ref p.a), some (.int (0 + (i : Nat))), some v, some (.ref pr), some (.ref m), some (.ref R), v7, v8, v9, v10, v11, v12, v13, v14] ∧ Kp [p.a] H4 H' ∧ PenAt H' p (n3 + 711) ∧ RowsAt K H' R rows ∧ rows.length ≤ 5 ∧ ∀ is ∈ rows, is.length = k, ?_, ?_⟩
    · refine ⟨_, rfl, p, _, n3 + 500, rfl, hp4, by omega, by decide, by decide, fun r H5 r0 r1 k5 hp5 => ?_⟩
      refine ⟨r, rfl, by omega, by omega, fun D hD => ?_⟩
      refine lc_it (walk_range (lo := 0) (n := r.toNat)) (fun i H' => Kp [p.a] H5 H' ∧ PenAt H' p (n3 + 501 + 42 * i) ∧ ∃ rows xs, H' D = some (.lst xs) ∧ DpAll K H' xs (rows.map intsD) ∧ rows.length = i ∧ ∀ is ∈ rows, is.length = k) ⟨(Kp.new hD).all, (hp5.new hD), [], [], upd_same, .nil, rfl, fun is h => nomatch h⟩ (fun _ _ _ _ => trivial) ?_ ?_
      · rintro i x Ha Hb hi ⟨ka, hpa, rows, xs, hxD, hA, hrl, hrk⟩ ⟨rfl, rfl⟩
        refine ⟨rfl, ?_⟩
        refine ⟨_, rfl, _, rfl, p, v, N, k, b, _, rfl, by omega, (k5.trans ka).dp (pen_free hp4) hL4.v, hpa, by omega, fun is v' Hc hlen hdp kc hpc => ?_⟩
        have xl := dpA_len hA
        rw [List.length_map] at xl
        have cD := lst_kp hxD hpa kc
        obtain ⟨nd1, nd2⟩ := hp5.not hD
        have kD : Kp [D] Hc (upd Hc D (.lst (xs ++ [v']))) := Kp.put (by simp)
        have fD : FreeT [D] Hc := fun b hb => by rw [List.mem_singleton] at hb; rw [hb, cD]; rfl
        have tur : ∀ l : List (List Int), tuA (l.map intsD) = true := fun l => tuA_all fun d hd => by
          obtain ⟨z, _, rfl⟩ := List.mem_map.mp hd
          unfold intsD
          rw [tu]
          exact tuA_all fun e he => by
            obtain ⟨y, _, rfl⟩ := List.mem_map.mp he
            rfl
        refine ⟨xs, cD, sm' (by omega), fun g o hg1 hg2 => ?_, (hpc.keep kD nd1 nd2).le (by omega), rows ++ [is], _, upd_same, ?_, by rw [List.length_append, hrl]; rfl, fun z hz => ?_⟩
        · rw [upd_ne (ne_of_none hg2 hD)]
          exact (ka.trans kc) _ _ hg1 hg2
        · rw [List.map_append]
          exact kD.dpTA fD (by rw [← List.map_append]; exact tur (rows ++ [is])) (dpA_app (kc.dpA (pen_free hpa) hA) (.cons hdp .nil))
        · rcases List.mem_append.mp hz with h | h
          · exact hrk z h
          · rw [List.mem_singleton] at h
            rw [h, hlen, tl]
      · rintro Ha ⟨ka, hpa, rows, xs, hxD, hA, hrl, hrk⟩
        exact ⟨D, rows, rfl, k5.trans ka, hpa.le (by omega), ⟨xs, hxD, hA⟩, by omega, hrk⟩
    rintro _ H5 ⟨R0, rows0, rfl, k5, hp5, hR0, hr5, hrk0⟩
    have ht5 := tab_kp ht4 hp4 k5
    have hL5 := hL4.kp hp4 k5
    -- the first one twice
    refine ⟨fun σ' H' => ∃ R rows, σ' = [some (.ref a), some (.ref p.a), some (.int (0 + (i : Nat))), some v, some (.ref pr), some (.ref m), some (.ref R), v7, v8, v9, v10, v11, v12, v13, v14] ∧ Kp [p.a] H5 H' ∧ PenAt H' p (n3 + 712) ∧ RowsAt K H' R rows ∧ rows.length ≤ 10 ∧ ∀ is ∈ rows, is.length = k, ?_, ?_⟩
    · obtain ⟨xs, hx1, hx2⟩ := id hR0
      have xl := dpA_len hx2
      rw [List.length_map] at xl
      refine ⟨_, rfl, _, rfl, _, rfl, p, _, n3 + 711, rfl, hp5, by omega, by decide, by decide, fun r H6 r0 r1 k6 hp6 => ?_⟩
      have hx6 := lst_kp hx1 hp5 k6
      refine ⟨r, rfl, R0, xs, rfl, SqL.of hx6, fun u hu1 => ?_⟩
      obtain ⟨rn, rfl⟩ : ∃ rn : Nat, r = (rn : Int) := ⟨r.toNat, by omega⟩
      rw [cutV_to]
      have ku : Kp [] H6 (upd H6 u (.lst (xs.take rn))) := Kp.new hu1
      refine ⟨R0, u, xs, _, rfl, rfl, ku.at hx6 (by simp), upd_same, sm (by rw [List.length_take]; omega), fun w hw => ?_⟩
      have kw := ku.trans (Kp.new (o := .lst (xs ++ xs.take rn)) hw)
      refine ⟨w, rows0 ++ rows0.take rn, rfl, k6.trans kw.all, (hp6.kp0 kw), ⟨_, upd_same, ?_⟩, by rw [List.length_append, List.length_take]; omega, fun z hz => ?_⟩
      · have hA6 := kw.dpA FreeS.nil (k6.dpA (pen_free hp5) hx2)
        rw [List.map_append, List.map_take]
        exact dpA_app hA6 (dpA_take rn hA6)
      · rcases List.mem_append.mp hz with h | h
        · exact hrk0 z h
        · exact hrk0 z (List.mem_of_mem_take h)
    rintro _ H6 ⟨R, rows, rfl, k6, hp6, hR, hr10, hrk⟩
    have ht6 := tab_kp ht5 hp5 k6
    have hL6 := hL5.kp hp5 k6
    clear hR0 hrk0 hr5
    -- turns
    refine ⟨fun σ' H' => ∃ turns : Nat, σ' = [some (.ref a), some (.ref p.a), some (.int (0 + (i : Nat))), some v, some (.ref pr), some (.ref m), some (.ref R), some (.int (turns : Nat)), v8, v9, v10, v11, v12, v13, v14] ∧ Kp [p.a] H6 H' ∧ PenAt H' p (n3 + 714) ∧ turns ≤ 200, ?_, ?_⟩
    · refine ⟨_, rfl, _, rfl, p, _, n3 + 712, rfl, hp6, by omega, by decide, by decide, fun r H7 r0 r1 k7 hp7 => ?_⟩
      refine ⟨(by show 3 ≤ sizeLine; decide), fun u hu1 => ?_⟩
      refine ⟨p, u, _, n3 + 713, rfl, SqL.of upd_same, by show 0 < 3; decide, by show 3 < 1000000; decide, hp7.new hu1, by omega, fun y H8 hy k8 hp8 => ?_⟩
      have k68 : Kp [p.a] H6 H8 := k7.trans ((Kp.new hu1).trans k8)
      simp only [List.mem_cons, List.not_mem_nil, or_false] at hy
      rcases hy with rfl | rfl | rfl
      · exact ⟨r.toNat, by
          have e : ((r.toNat : Nat) : Int) = r := by omega
          rw [e]
          rfl, k68, hp8, by omega⟩
      · exact ⟨60, rfl, k68, hp8, by omega⟩
      · exact ⟨200, rfl, k68, hp8, by omega⟩
    rintro _ H7 ⟨turns, rfl, k7, hp7, hts⟩
    have ht7 := tab_kp ht6 hp6 k7
    have hL7 := hL6.kp hp6 k7
    have hR7 := rows_kp hR hp6 k7
    clear hR
    -- told
    have gl := graph_len hP.ok
    generalize hcnt : countAll b turns (envs N k rows) (List.replicate (graphOf b).2.length 0) = cnt at *
    have cl : cnt.length = (graphOf b).2.length := by rw [← hcnt, countAll_len, List.length_replicate]
    refine ⟨fun σ' H' => ∃ t : Addr, σ' = [some (.ref a), some (.ref p.a), some (.int (0 + (i : Nat))), some v, some (.ref pr), some (.ref m), some (.ref R), some (.int (turns : Nat)), some (.ref t), v9, v10, v11, v12, v13, v14] ∧ Kp [p.a] H7 H' ∧ PenAt H' p (n3 + 730) ∧ H' t = some (.tup (intsOf cnt)), ?_, ?_⟩
    · obtain ⟨xs, hx1, hx2⟩ := id hR7
      have xl := dpA_len hx2
      rw [List.length_map] at xl
      refine ⟨_, rfl, _, rfl, _, rfl, R, xs, rfl, .inl ⟨SqL.of hx1, fun l hl => ?_⟩⟩
      have kl : Kp [] H7 (upd H7 l (.tup xs)) := Kp.new hl
      have tur : ∀ l : List (List Int), tuA (l.map intsD) = true ∧ slimA (l.map intsD) = true ∨ ¬ (∀ is ∈ l, is.length ≤ 1000) := fun l => by
        by_cases h : ∀ is ∈ l, is.length ≤ 1000
        · refine .inl ?_
          induction l with
          | nil => exact ⟨rfl, rfl⟩
          | cons x l ih =>
            obtain ⟨h1, h2⟩ := ih fun is hi => h is (List.mem_cons_of_mem _ hi)
            have hx := h x List.mem_cons_self
            have a1 : ∀ z : List Int, tuA (z.map PyData.int) = true ∧ slimA (z.map PyData.int) = true := fun z => by
              induction z with
              | nil => exact ⟨rfl, rfl⟩
              | cons y z ih => exact ⟨by rw [List.map_cons, tuA, ih.1]; rfl, by rw [List.map_cons, slimA, ih.2]; rfl⟩
            refine ⟨?_, ?_⟩
            · rw [List.map_cons, tuA, h1]
              unfold intsD
              rw [tu, (a1 x).1]
              rfl
            · rw [List.map_cons]
              refine slim_c ?_ h2
              exact slim_t (by rw [List.length_map]; exact hx) (a1 x).2
        · exact .inr h
      have hts2 : tuA (rows.map intsD) = true ∧ slimA (rows.map intsD) = true := (tur rows).resolve_right fun h => h fun is hi => by rw [hrk is hi]; omega
      have tup0 : ∀ l : List (List Int), tupsA (l.map intsD) = l.length := fun l => by
        induction l with
        | nil => rw [List.map_nil, tupsA]; rfl
        | cons x l ih =>
          have a1 : ∀ z : List Int, tupsA (z.map PyData.int) = 0 := fun z => by
            induction z with
            | nil => rw [List.map_nil, tupsA]
            | cons y z ih => rw [List.map_cons, tupsA, ih, tups]
          rw [List.map_cons, tupsA, ih]
          unfold intsD
          rw [tups, a1, List.length_cons]
          omega
      have et : tups (.tuple (rows.map intsD)) = rows.length + 1 := by rw [tups, tup0]
      have ed := rows_dep rows
      refine ⟨p, .ref l, .tuple (rows.map intsD), n3 + 714, rfl, dp_new upd_same (kl.dpA FreeS.nil hx2), by rw [tu]; exact hts2.1, slim_t (by rw [List.length_map]; omega) hts2.2, by rw [PyData.depth]; omega, hp7.new hl, by rw [et]; omega, fun v' d' H8 hdn hd8 k8 hp8 => ?_⟩
      rw [et] at hp8
      obtain ⟨okr, dle⟩ := okRows_of (k := k) hdn hrk
      have k78 : Kp [p.a] H7 H8 := kl.all.trans k8
      refine ⟨_, rfl, pr, v', .int (turns : Nat), N, k, b, d', .int (turns : Nat), rfl, hP, (hL7.kp hp7 k78).pr, hideL_out hd8, .int _, by omega, fun z => ?_, fun _ z => ?_, fun _ _ => ⟨rows, turns, rfl, by omega, hdn, fun t H9 ht9 k9 hH9 => ?_⟩⟩
      · rw [okr] at z
        cases z
      · rw [ok0, decide_eq_true (by omega)] at z
        cases z
      · rw [hcnt] at hH9
        exact ⟨t, rfl, k78.trans k9.all, (hp8.kp0 k9).le (by omega), hH9⟩
    rintro _ H8 ⟨t, rfl, k8, hp8, hT8⟩
    have ht8 := tab_kp ht7 hp7 k8
    have hL8 := hL7.kp hp7 k8
    have hR8 := rows_kp hR7 hp7 k8
    -- a tuple of numbers
    refine ⟨fun z H' => z = false ∧ Kp [] H8 H', ?_, ?_⟩
    · refine ⟨_, rfl, _, _, _, _, true, rfl, ClsV.ty _, tyx_seq (SqT.of hT8), kit_ty (b := "tuple") (by decide +kernel), _, rfl, iteF ?_⟩
      refine ⟨_, rfl, t, rfl, ⟨_, SqT.of hT8⟩, fun D hD => ?_⟩
      refine lc_it (walk_tup (xs := intsOf cnt)) (fun i H' => Kp [] H8 H' ∧ H' D = some (.lst [])) ⟨Kp.new hD, upd_same⟩ (fun i H' _ p => SqT.of (p.1.at hT8 (by simp))) ?_ ?_
      · rintro i x Ha Hb hi ⟨ka, hDa⟩ ⟨rfl, hx⟩
        unfold intsOf at hx
        rw [List.getElem?_map] at hx
        obtain ⟨y, _, rfl⟩ := Option.map_eq_some_iff.mp hx
        refine ⟨rfl, ?_⟩
        exact ⟨_, rfl, .int y, _, rfl, ⟨.base (.int y), by simp [basics]⟩, _, rfl, iteF ⟨ka, hDa⟩⟩
      · rintro Ha ⟨ka, hDa⟩
        refine ⟨(by show 0 ≤ sizeLine; decide), fun u hu1 => ?_⟩
        have ku : Kp [] Ha (upd Ha u (.lst [])) := Kp.new hu1
        refine ⟨.list [], .list [], .lst (SqL.of (ku.at hDa (by simp))) .nil, .lst (SqL.of upd_same) .nil, by decide +kernel, by decide +kernel, _, rfl, ?_⟩
        rw [eqv_lst, eqvAll_nil]
        exact ⟨rfl, ka.trans ku⟩
    rintro _ H9 ⟨rfl, k9⟩
    refine iteF ?_
    have hp9 := hp8.kp0 k9
    have ht9 := tab_kp ht8 hp8 k9.all
    have hL9 := hL8.kp hp8 k9.all
    have hR9 := rows_kp hR8 hp8 k9.all
    have hT9 := k9.at hT8 (by simp)
    -- the law's counts
    generalize hdn : doneAll b turns (envs N k rows) = done at *
    refine ⟨fun σ' H' => ∃ f : Addr, σ' = [some (.ref a), some (.ref p.a), some (.int (0 + (i : Nat))), some v, some (.ref pr), some (.ref m), some (.ref R), some (.int (turns : Nat)), some (.ref t), some (.ref f), some (.int (done : Nat)), v11, v12, v13, v14] ∧ Kp [] H9 H' ∧ H' f = some (.lst (intsOf cnt)), ?_, ?_⟩
    · refine ⟨_, rfl, _, rfl, _, rfl, _, rfl, v, m, R, N, k, b, rows, turns, rfl, hP, hL9.v, hL9.made, hR9, (fun is hi => by rw [hrk is hi, tl]), by omega, fun t2 f H10 k10 ht2 hf => ?_⟩
      rw [hdn] at ht2
      rw [hcnt] at hf
      exact ⟨t2, _, rfl, SqT.of ht2, rfl, _, _, rfl, _, _, rfl, rfl, f, rfl, k10, hf⟩
    rintro _ H10 ⟨f, rfl, k10, hF10⟩
    have hp10 := hp9.kp0 k10
    have ht10 := tab_kp ht9 hp9 k10.all
    have hL10 := hL9.kp hp9 k10.all
    have hR10 := rows_kp hR9 hp9 k10.all
    have hT10 := k10.at hT9 (by simp)
    -- they are the same, and they flow
    refine ⟨fun z H' => z = false ∧ Kp [] H10 H', ?_, ?_⟩
    · refine ⟨_, rfl, t, _, rfl, .inr (SqT.of hT10), fun l hl => ?_⟩
      have kl : Kp [] H10 (upd H10 l (.lst (intsOf cnt))) := Kp.new hl
      refine ⟨_, rfl, .list (cnt.map PyData.int), .list (cnt.map PyData.int), .lst (SqL.of upd_same) (dpA_ints cnt), .lst (SqL.of (kl.at hF10 (by simp))) (dpA_ints cnt), shaped_ints cnt, shaped_ints cnt, _, rfl, ?_⟩
      rw [eqv_lst, eqvAll_ints]
      refine iteF ?_
      have hR11 := rows_kp hR10 hp10 kl.all
      have hM11 := (hL10.kp hp10 kl.all).made
      obtain ⟨xs, hx1, hx2⟩ := hR11
      have xl := dpA_len hx2
      rw [List.length_map] at xl
      refine ⟨_, rfl, _, rfl, R, xs, rfl, .inl (SqL.of hx1), rfl, _, rfl, ?_⟩
      refine ite2 (fun e => ?_) (fun _ => ⟨rfl, kl⟩)
      have e1 : done = rows.length := by
        have := V.int.inj (of_decide_eq_true e)
        omega
      have e2 : (envs N k rows).length = rows.length := by unfold envs; rw [List.length_map]
      refine ⟨_, rfl, _, rfl, _, rfl, m, t, N, b, cnt, done, rfl, hP.ok, hP.size, hM11, SqT.of (kl.at hT10 (by simp)), cl, fun x => ?_, fun H12 k12 => ⟨_, rfl, rfl, kl.trans k12⟩⟩
      have fl := flow_all (turns := turns) hP.ok x (envs N k rows) (List.replicate (graphOf b).2.length 0) (by rw [List.length_replicate]) (by rw [hdn, e2, e1])
      rw [hcnt, e2, ← e1] at fl
      have z1 : came (graphOf b).2 x (List.replicate (graphOf b).2.length 0) = 0 := sumAt_zero _ _
      have z2 : gone (graphOf b).2 x (List.replicate (graphOf b).2.length 0) = 0 := sumAt_zero _ _
      rw [z1, z2] at fl
      omega
    rintro _ H11 ⟨rfl, k11⟩
    refine iteF ?_
    have hp11 := hp10.kp0 k11
    have ht11 := tab_kp ht10 hp10 k11.all
    have hL11 := hL10.kp hp10 k11.all
    have hR11 := rows_kp hR10 hp10 k11.all
    clear hR7 hR8 hR9 hR10 hL4 hL5 hL6 hL7 hL8 hL9 hL10
    -- wrong rows, wrong turns
    refine ⟨fun σ' H' => ∃ (y z : V) (dw dl : PyData), σ' = [some (.ref a), some (.ref p.a), some (.int (0 + (i : Nat))), some v, some (.ref pr), some (.ref m), some (.ref R), some (.int (turns : Nat)), some (.ref t), some (.ref f), some (.int (done : Nat)), some y, some z, v13, v14] ∧ Kp [p.a] H11 H' ∧ PenAt H' p (n3 + 740) ∧
      Dp K H' y dw ∧ (WrongD k rows dw ∨ dw = .list (rows.map intsD)) ∧ Dp K H' z dl ∧ (LessD dl ∨ dl = .int 5), ?_, ?_⟩
    · refine ⟨_, rfl, (by show 1 ≤ sizeLine; decide), fun l1 h1 => ?_⟩
      have ka : Kp [] H11 (upd H11 l1 (.lst [.non])) := Kp.new h1
      have e1 : (upd H11 l1 (.lst [.non])) l1 = some (.lst [.non]) := upd_same
      generalize upd H11 l1 (.lst [.non]) = Ha at *
      refine ⟨(by show 1 ≤ sizeLine; decide), fun t1 h2 => ?_⟩
      have kb : Kp [] Ha (upd Ha t1 (.tup [.int 1])) := Kp.new h2
      refine ⟨t1, 9, [.int 1], rfl, rfl, SqT.of upd_same, (by intro z; cases z), by decide, by decide, by decide, fun t9 h3 => ?_⟩
      generalize upd Ha t1 (.tup [.int 1]) = Hb at *
      have kc : Kp [] Hb (upd Hb t9 (.tup (List.replicate (9 : Int).toNat [V.int 1]).flatten)) := Kp.new h3
      have e9 : (upd Hb t9 (.tup (List.replicate (9 : Int).toNat [V.int 1]).flatten)) t9 = some (.tup (List.replicate (9 : Int).toNat [V.int 1]).flatten) := upd_same
      generalize upd Hb t9 (.tup (List.replicate (9 : Int).toNat [V.int 1]).flatten) = Hc at *
      refine ⟨(by show 1 ≤ sizeLine; decide), fun l2 h4 => ?_⟩
      have kd : Kp [] Hc (upd Hc l2 (.lst [.ref t9])) := Kp.new h4
      have e2 : (upd Hc l2 (.lst [.ref t9])) l2 = some (.lst [.ref t9]) := upd_same
      generalize upd Hc l2 (.lst [.ref t9]) = Hd at *
      refine ⟨(by show 1 ≤ sizeLine; decide), fun l3 h5 => ?_⟩
      have ke : Kp [] Hd (upd Hd l3 (.lst [.str "1"])) := Kp.new h5
      have e3 : (upd Hd l3 (.lst [.str "1"])) l3 = some (.lst [.str "1"]) := upd_same
      generalize upd Hd l3 (.lst [.str "1"]) = He at *
      refine ⟨(by show 1 ≤ sizeLine; decide), fun l4 h6 => ?_⟩
      have kf : Kp [] He (upd He l4 (.lst [.int 3])) := Kp.new h6
      have e4 : (upd He l4 (.lst [.int 3])) l4 = some (.lst [.int 3]) := upd_same
      generalize upd He l4 (.lst [.int 3]) = Hf at *
      refine ⟨_, rfl, (by show 6 ≤ sizeLine; decide), fun u h7 => ?_⟩
      have kg : Kp [] Hf (upd Hf u (.lst [.non, .ref l1, .ref l2, .ref l3, .ref l4, .ref R])) := Kp.new h7
      have eu : (upd Hf u (.lst [.non, .ref l1, .ref l2, .ref l3, .ref l4, .ref R])) u = some (.lst [.non, .ref l1, .ref l2, .ref l3, .ref l4, .ref R]) := upd_same
      generalize upd Hf u (.lst [.non, .ref l1, .ref l2, .ref l3, .ref l4, .ref R]) = Hg at *
      have k0g : Kp [] H11 Hg := ka.trans (kb.trans (kc.trans (kd.trans (ke.trans (kf.trans kg)))))
      have hpg := hp11.kp0 k0g
      refine ⟨p, u, _, n3 + 730, rfl, SqL.of eu, by show 0 < 6; decide, by show 6 < 1000000; decide, hpg, by omega, fun y H12 hy k12 hp12 => ?_⟩
      have k012 : Kp [p.a] H11 H12 := k0g.all.trans k12
      have hyd : ∃ dw, Dp K Hg y dw ∧ (WrongD k rows dw ∨ dw = .list (rows.map intsD)) := by
        have g9 := ((kd.trans (ke.trans (kf.trans kg))).at e9 (by simp))
        simp only [List.mem_cons, List.not_mem_nil, or_false] at hy
        rcases hy with rfl | rfl | rfl | rfl | rfl | rfl
        · exact ⟨_, .non, .inl wrong_none⟩
        · exact ⟨_, .lst (SqL.of ((kb.trans (kc.trans (kd.trans (ke.trans (kf.trans kg))))).at e1 (by simp))) (.cons .non .nil), .inl (wrong_lnone hrk)⟩
        · refine ⟨.list [nineD], .lst (SqL.of ((ke.trans (kf.trans kg)).at e2 (by simp))) (.cons ?_ .nil), .inl (wrong_nine (by omega) hrk)⟩
          exact dp_new g9 (.cons (.int 1) (.cons (.int 1) (.cons (.int 1) (.cons (.int 1) (.cons (.int 1) (.cons (.int 1) (.cons (.int 1) (.cons (.int 1) (.cons (.int 1) .nil)))))))))
        · exact ⟨_, .lst (SqL.of ((kf.trans kg).at e3 (by simp))) (.cons (.str _) .nil), .inl (wrong_lstr hrk)⟩
        · exact ⟨_, .lst (SqL.of (kg.at e4 (by simp))) (.cons (.int _) .nil), .inl (wrong_lint hrk)⟩
        · obtain ⟨xs, hx1, hx2⟩ := rows_kp hR11 hp11 k0g.all
          exact ⟨_, .lst (SqL.of hx1) hx2, .inr rfl⟩
      obtain ⟨dw, hdw, hwd⟩ := hyd
      have hdw12 := k12.dp (pen_free hpg) hdw
      refine ⟨_, rfl, 1, rfl, (by show 4 ≤ sizeLine; decide), fun u2 h8 => ?_⟩
      have kh : Kp [] H12 (upd H12 u2 (.lst [.int (-1), .non, .bl true, .int 5])) := Kp.new h8
      have eu2 : (upd H12 u2 (.lst [.int (-1), .non, .bl true, .int 5])) u2 = some (.lst [.int (-1), .non, .bl true, .int 5]) := upd_same
      change spPick K [.ref p, .ref u2] (upd H12 u2 (.lst [.int (-1), .non, .bl true, .int 5])) _ C8.E0
      generalize upd H12 u2 (.lst [.int (-1), .non, .bl true, .int 5]) = Hh at *
      have hph := hp12.kp0 kh
      refine ⟨p, u2, _, n3 + 731, rfl, SqL.of eu2, by show 0 < 4; decide, by show 4 < 1000000; decide, hph, by omega, fun z H13 hz k13 hp13 => ?_⟩
      have k1213 : Kp [p.a] H12 H13 := kh.all.trans k13
      have hzd : ∃ dl, Dp K H13 z dl ∧ (LessD dl ∨ dl = .int 5) := by
        simp only [List.mem_cons, List.not_mem_nil, or_false] at hz
        rcases hz with rfl | rfl | rfl | rfl
        · exact ⟨_, .int _, .inl ⟨rfl, by rw [eqv_int]; decide, by rw [eqv_int]; decide, by decide +kernel, by decide +kernel⟩⟩
        · exact ⟨_, .non, .inl ⟨rfl, by simp [PyData.eqv], by simp [PyData.eqv], by decide +kernel, by decide +kernel⟩⟩
        · exact ⟨_, .bl _, .inl ⟨rfl, by decide +kernel, by decide +kernel, by decide +kernel, by decide +kernel⟩⟩
        · exact ⟨_, .int _, .inr rfl⟩
      obtain ⟨dl, hdl, hld⟩ := hzd
      refine ⟨(by show 2 ≤ sizeLine; decide), fun tt htt => ?_⟩
      have kt : Kp [] H13 (upd H13 tt (.tup [y, z])) := Kp.new htt
      refine ⟨tt, _, rfl, SqT.of upd_same, rfl, _, _, rfl, _, _, rfl, rfl, y, z, dw, dl, rfl, k012.trans (k1213.trans kt.all), (hp13.kp0 kt).le (by omega), kt.dp FreeS.nil (k1213.dp (pen_free hp12) hdw12), hwd, kt.dp FreeS.nil hdl, hld⟩
    rintro _ H12 ⟨y, z, dw, dl, rfl, k12, hp12, hdw, hwd, hdl, hld⟩
    have ht12 := tab_kp ht11 hp11 k12
    have hL12 := hL11.kp hp11 k12
    have hR12 := rows_kp hR11 hp11 k12
    clear hR11 hL11
    have sl : SeqAt.shaped dl = true := by
      rcases hld with h | rfl
      · exact h.sh
      · decide +kernel
    have sw : SeqAt.shaped dw = true := by
      rcases hwd with h | rfl
      · exact h.sh
      · exact shaped_rows rows
    -- due, by the turns
    refine ⟨fun σ' H' => ∃ due : V, σ' = [some (.ref a), some (.ref p.a), some (.int (0 + (i : Nat))), some v, some (.ref pr), some (.ref m), some (.ref R), some (.int (turns : Nat)), some (.ref t), some due, some (.int (done : Nat)), some y, some z, v13, v14] ∧ Kp [] H12 H' ∧
      ((dl = .int 5 ∧ due = .non) ∨ (LessD dl ∧ ∃ td, due = .ref td ∧ H' td = some (.tup [.str "turns", z]))), ?_, ?_⟩
    · refine ⟨_, rfl, dl, .int 5, hdl, .int 5, sl, by decide +kernel, _, rfl, ?_⟩
      rcases hld with h | rfl
      · rw [h.ne]
        refine iteT ?_
        refine ⟨_, rfl, (by show 2 ≤ sizeLine; decide), fun td htd => ?_⟩
        exact ⟨.ref td, rfl, Kp.new htd, .inr ⟨h, td, rfl, upd_same⟩⟩
      · rw [eqv_int]
        refine iteF ?_
        exact ⟨.non, rfl, Kp.refl, .inl ⟨rfl, rfl⟩⟩
    rintro _ H13 ⟨due, rfl, k13, hdue⟩
    -- due, by the rows
    have hR13 := rows_kp hR12 hp12 k13.all
    obtain ⟨xs, hx1, hx2⟩ := id hR13
    refine ⟨fun σ' H' => ∃ due : V, σ' = [some (.ref a), some (.ref p.a), some (.int (0 + (i : Nat))), some v, some (.ref pr), some (.ref m), some (.ref R), some (.int (turns : Nat)), some (.ref t), some due, some (.int (done : Nat)), some y, some z, v13, v14] ∧ Kp [] H13 H' ∧
      ((WrongD k rows dw ∧ ∃ td, due = .ref td ∧ H' td = some (.tup [.str "row", y])) ∨ (dw = .list (rows.map intsD) ∧ dl = .int 5 ∧ due = .non) ∨ (dw = .list (rows.map intsD) ∧ LessD dl ∧ ∃ td, due = .ref td ∧ H' td = some (.tup [.str "turns", z]))), ?_, ?_⟩
    · refine ⟨_, rfl, _, rfl, dw, .list (rows.map intsD), k13.dp FreeS.nil hdw, .lst (SqL.of hx1) hx2, sw, shaped_rows rows, _, rfl, ?_⟩
      rcases hwd with h | rfl
      · rw [h.ne]
        refine iteT ?_
        refine ⟨_, rfl, (by show 2 ≤ sizeLine; decide), fun td htd => ?_⟩
        exact ⟨.ref td, rfl, Kp.new htd, .inl ⟨h, td, rfl, upd_same⟩⟩
      · rw [eqv_lst, eqv_rows]
        refine iteF ?_
        refine ⟨_, rfl, due, rfl, Kp.refl, ?_⟩
        rcases hdue with ⟨h1, h2⟩ | h
        · exact .inr (.inl ⟨rfl, h1, h2⟩)
        · exact .inr (.inr ⟨rfl, h⟩)
    rintro _ H14 ⟨due2, rfl, k14, hdue2⟩
    clear hdue due
    have k1214 := k13.trans k14
    have hp14 := hp12.kp0 k1214
    have ht14 := tab_kp ht12 hp12 k1214.all
    have hL14 := hL12.kp hp12 k1214.all
    have hdw14 := k1214.dp FreeS.nil hdw
    have hdl14 := k1214.dp FreeS.nil hdl
    -- the fault
    refine ⟨fun pq hpq => ?_, fun H15 eN hT15 => ?_⟩
    · rw [List.mem_singleton] at hpq
      rw [hpq]
      exact ht14
    have ht15 : LamX.TabS H15 Pt q0 := by
      exact hT15 _ (List.mem_singleton.mpr rfl)
    have hp15 := ext_pen eN hp14
    have fin : ∀ H', Kp [] H15 H' → ∃ v2 v3 v4 v5 v6 v7 v8 v9 v10 v11 v12 v13' v14' : Option V, ([some (.ref a), some (.ref p.a), some (.int (0 + (i : Nat))), some v, some (.ref pr), some (.ref m), some (.ref R), some (.int (turns : Nat)), some (.ref t), some due2, some (.int (done : Nat)), some y, some z, v13, v14] : List (Option V)) = [some (.ref a), some (.ref p.a), v2, v3, v4, v5, v6, v7, v8, v9, v10, v11, v12, v13', v14'] ∧ PenAt H' p (n3 + 1000) ∧ LamX.TabS H' Pt q0 := fun H' k =>
      ⟨_, _, _, _, _, _, _, _, _, _, _, _, _, rfl, (hp15.kp0 k).le (by omega), tab_kp ht15 hp15 k.all⟩
    have okr : ∀ {d}, d = .list (rows.map intsD) → okRows k d = true ∧ dlen d = rows.length := fun e => by
      subst e
      refine okRows_of ?_ hrk
      rw [norm, normA_map, List.map_map]
      congr 1
      refine List.map_congr_left fun is _ => ?_
      exact norm_id _ (by
        unfold intsD
        rw [tu]
        exact tuA_all fun e he => by
          obtain ⟨x, _, rfl⟩ := List.mem_map.mp he
          rfl)
    have dwl : dlen dw ≤ 1000 := by
      rcases hwd with h | h
      · exact h.dl
      · rw [(okr h).2]; omega
    refine ⟨_, rfl, _, rfl, _, rfl, pr, y, z, N, k, b, dw, dl, rfl, hP, ext_prog eN hL14.pr, ext_dp eN hdw14, ext_dp eN hdl14, dwl, fun z1 dx H16 hdx k16 hxd => ?_, fun z1 z2 dx H16 hdx k16 hxd => ?_, fun z1 z2 => ?_⟩
    · refine .inl ⟨rfl, dx, y, rfl, hxd, fun tt htt => ?_⟩
      have kt : Kp [] H15 (upd H16 tt (.tup [.str "row", y])) := k16.trans (Kp.new htt)
      rcases hdue2 with ⟨hw, td, rfl, htd⟩ | ⟨e1, _⟩ | ⟨e1, _⟩
      · have htd15 := kt.at (eN td _ htd fun ps z => by cases z) (by simp)
        have hy := kt.dp FreeS.nil (ext_dp eN hdw14)
        refine ⟨_, rfl, .tuple [.str "row", dw], .tuple [.str "row", dw], dp_new upd_same (.cons (.str _) (.cons hy .nil)), dp_new htd15 (.cons (.str _) (.cons hy .nil)), shaped_pair (by decide +kernel) hw.sh hw.dp, shaped_pair (by decide +kernel) hw.sh hw.dp, _, rfl, ?_⟩
        rw [eqv_pair hw.eq]
        exact iteF (fin _ kt)
      · rw [(okr e1).1] at z1
        cases z1
      · rw [(okr e1).1] at z1
        cases z1
    · refine .inr ⟨rfl, dx, z, _, rfl, hxd, fun tt htt => ?_⟩
      have kt : Kp [] H15 (upd H16 tt (.tup [.str "turns", z])) := k16.trans (Kp.new htt)
      rcases hdue2 with ⟨hw, _⟩ | ⟨_, e1, _⟩ | ⟨_, hl, td, rfl, htd⟩
      · rw [hw.no] at z1
        cases z1
      · rw [e1] at z2
        cases z2
      · have htd15 := kt.at (eN td _ htd fun ps z => by cases z) (by simp)
        have hz := kt.dp FreeS.nil (ext_dp eN hdl14)
        refine ⟨_, rfl, .tuple [.str "turns", dl], .tuple [.str "turns", dl], dp_new upd_same (.cons (.str _) (.cons hz .nil)), dp_new htd15 (.cons (.str _) (.cons hz .nil)), shaped_pair (by decide +kernel) hl.sh hl.dp, shaped_pair (by decide +kernel) hl.sh hl.dp, _, rfl, ?_⟩
        rw [eqv_pair hl.eq]
        exact iteF (fin _ kt)
    · rcases hdue2 with ⟨hw, _⟩ | ⟨e1, e2, rfl⟩ | ⟨_, hl, _⟩
      · rw [hw.no] at z1
        cases z1
      · refine ⟨rows, 5, by rw [e2]; rfl, by omega, ?_, fun t5 H16 h16 k16 hH16 => ?_⟩
        · rw [e1, norm, normA_map, List.map_map]
          congr 1
          refine List.map_congr_left fun is _ => ?_
          exact norm_id _ (by
            unfold intsD
            rw [tu]
            exact tuA_all fun e he => by
              obtain ⟨x, _, rfl⟩ := List.mem_map.mp he
              rfl)
        · refine ⟨.non, rfl, _, rfl, .none, .none, .non, .non, by decide +kernel, by decide +kernel, _, rfl, ?_⟩
          have : PyData.eqv .none .none = true := by simp [PyData.eqv]
          rw [this]
          exact iteF (fin _ k16)
      · rw [hl.no] at z2
        cases z2
  · rintro _ H2 ⟨v2, v3, v4, v5, v6, v7, v8, v9, v10, v11, v12, v13, v14, rfl, hp2, ht2⟩
    exact q H2
end
end Sv
end
section
set_option Elab.async false
set_option linter.all false
set_option autoImplicit false
set_option maxRecDepth 100000
/-! X0: what is read off the heap behind the top. -/
namespace Sv
open PySem PySem.Spec PyProof.Rows L2 He
/-! ### looks -/
theorem insB_ok {K : PySem.W.Frag} {C : Addr} (cl : Cls K C) (h : insB K C = true) : C8.InsC K C := by
  obtain ⟨h1, h⟩ := ba h
  obtain ⟨h2, h⟩ := ba h
  obtain ⟨h3, h⟩ := ba h
  obtain ⟨h4, h5⟩ := ba h
  exact ⟨cl, of_decide_eq_true h1, of_decide_eq_true h2, of_decide_eq_true h3, of_decide_eq_true h4, of_decide_eq_true h5⟩
theorem oexB_ok {K : PySem.W.Frag} {C : Addr} (h : oexB K C = true) : OexC K C := by
  obtain ⟨h1, h⟩ := ba h
  obtain ⟨h2, h⟩ := ba h
  obtain ⟨h3, h⟩ := ba h
  obtain ⟨h4, h5⟩ := ba h
  refine ⟨?_, of_decide_eq_true h2, of_decide_eq_true h3, of_decide_eq_true h4, h5⟩
  cases q : K.lookup C with
  | none =>
    rw [q] at h1
    cases h1
  | some o =>
    obtain ⟨oc, dd, dt, sl⟩ := o
    rw [q] at h1
    cases oc with
    | type t =>
      cases dt with
      | cls cd =>
        obtain ⟨nm, bs, mro, ns, qn, hd, sn, sub, ab, col, del⟩ := cd
        obtain ⟨l⟩ := sl
        dsimp only at h1
        split at h1
        · rename_i C' bm k0 k1 k2 k3 n k5
          obtain ⟨e1, h1⟩ := ba h1
          obtain ⟨e2, h1⟩ := ba h1
          obtain ⟨e3, h1⟩ := ba h1
          obtain ⟨e4, h1⟩ := ba h1
          obtain ⟨e5, e6⟩ := ba h1
          have e1 := of_decide_eq_true e1
          have e2 := of_decide_eq_true e2
          have e3 := of_decide_eq_true e3
          rw [Bool.not_eq_true'] at e4
          subst e1 e3 e4 e5
          subst e2
          exact ⟨nm, qn, ns, bs, bm, sn, sub, ab, col, dd, k0, k1, k2, k3, k5, rfl, e6⟩
        · cases h1
      | _ => cases h1
    | _ => cases h1
theorem isBuiltinVal_ok {o : Option PySem.W.CFound} {m : String} (h : isBuiltinVal o m = true) : o = some (.val (.builtin m)) := by
  unfold isBuiltinVal at h
  split at h
  · rw [of_decide_eq_true h]
  · cases h
theorem peB_ok {K : PySem.W.Frag} {mg : Str → Option Value} {C : Addr} (g : mg "PointError" = some (.ref C)) (h : peB K C = true) : PeOk K mg C := by
  obtain ⟨h1, h⟩ := ba h
  obtain ⟨h2, h3⟩ := ba h
  exact ⟨g, h1, isBuiltinVal_ok h2, of_decide_eq_true h3⟩
/-! ### defs -/
section
variable {K : PySem.W.Frag} {h : Heap} {mg : Str → Option Value} {st : Stmt} {x C m q : Str} {ps : List Str}
abbrev BindsAs (x q : Str) (st : Stmt) (ps : List Str) : Prop := ∀ (kV doc pm : Value) (an : Option Addr) (cdv ct : Value) (us : List Value), us.length = ps.length → bindArgs (PySem.W.fnOf x q (C8.fnArgs st) (C8.fnBody st) (C8.fnScope st) .none kV doc pm an cdv ct) ⟨us, []⟩ = pure (ps.zip us)
theorem fun_of {f : Addr} {fd : FuncData} (F : FunD K x q (C8.fnArgs st) (C8.fnBody st) (C8.fnScope st) [] [] f fd) : C8.Fun K x q st f fd := by
  obtain ⟨oc, od, dV, kV, doc, pm, an, cdv, ct, osl, e, lk, hcd, _, _⟩ := F.ex
  exact ⟨oc, od, dV, kV, doc, pm, an, cdv, ct, osl, e, lk, hcd⟩
theorem defOk_of (g : mg x = some (.ref (ga K x))) (F : ∃ fd, FunD K (dFn x st).name (dFn x st).qual (dFn x st).params (dFn x st).body (dFn x st).scope ((dFn x st).dvs K) ((dFn x st).kws K) (fAd K (dFn x st).at_) fd) (b : BindsAs x x st ps) : DefOk K mg x st ps := by
  obtain ⟨fd, F⟩ := F
  exact ⟨ga K x, fd, ⟨fun_of F, g, F.kp⟩, FunD.bindsN F b⟩
theorem metOk_of (me : Meth K (ga K C) m (ma K (ga K C) m)) (F : ∃ fd, FunD K (dMe C m q st).name (dMe C m q st).qual (dMe C m q st).params (dMe C m q st).body (dMe C m q st).scope ((dMe C m q st).dvs K) ((dMe C m q st).kws K) (fAd K (dMe C m q st).at_) fd) (b : BindsAs m q st ps) : MetOk K m q (ga K C) st ps := by
  obtain ⟨fd, F⟩ := F
  exact ⟨ma K (ga K C) m, fd, me, fun_of F, FunD.bindsN F b⟩
theorem makOk_of (g : mg C = some (.ref (ga K C))) (mk : Mk K (ga K C) (ma K (ga K C) "__init__")) (F : ∃ fd, FunD K (dMe C "__init__" q st).name (dMe C "__init__" q st).qual (dMe C "__init__" q st).params (dMe C "__init__" q st).body (dMe C "__init__" q st).scope ((dMe C "__init__" q st).dvs K) ((dMe C "__init__" q st).kws K) (fAd K (dMe C "__init__" q st).at_) fd) (b : BindsAs "__init__" q st ps) : MakOk K mg C q (ga K C) st ps := by
  obtain ⟨fd, F⟩ := F
  exact ⟨ma K (ga K C) "__init__", fd, mk, g, fun_of F, FunD.bindsN F b⟩
theorem errC_of (g : mg C = some (.ref (ga K C))) (e : errB K (ga K C) = true) (F : ∃ fd, FunD K (dMe C "__init__" q st).name (dMe C "__init__" q st).qual (dMe C "__init__" q st).params (dMe C "__init__" q st).body (dMe C "__init__" q st).scope ((dMe C "__init__" q st).dvs K) ((dMe C "__init__" q st).kws K) (fAd K (dMe C "__init__" q st).at_) fd) (b : BindsAs "__init__" q st ps) : ErrC K mg C q (ga K C) st ps := by
  obtain ⟨fd, F⟩ := F
  obtain ⟨h1, h⟩ := ba e
  obtain ⟨h2, h⟩ := ba h
  obtain ⟨h3, h⟩ := ba h
  obtain ⟨h4, h5⟩ := ba h
  exact ⟨g, oexB_ok h1, of_decide_eq_true h2, of_decide_eq_true h3, ma K (ga K C) "__init__", fd, of_decide_eq_true h4, of_decide_eq_true h5, fun_of F, FunD.bindsN F b⟩
end
/-! ### the table of forms -/
section
variable {P : Program} {w : World} {K : PySem.W.Frag} {mg : Str → Option Value}
theorem allStr_items : ∀ {l : List Value} {ks : List Str}, allStr l = some ks → ItemsAre (strKind P w) ks l ∧ Vals (ks.map V.str) l
  | [], ks, h => by
    cases h
    exact ⟨.nil, .nil⟩
  | v :: r, ks, h => by
    cases v with
    | str x t =>
      have h1 : (allStr r).map (fun l => x :: l) = some ks := h
      obtain ⟨l, h2, rfl⟩ := Option.map_eq_some_iff.mp h1
      obtain ⟨i1, i2⟩ := allStr_items h2
      exact ⟨.cons (strKind_is P w x t) i1, .cons ⟨t, rfl⟩ i2⟩
    | _ => cases h
theorem strTup_ok {v : Value} {ks : List Str} (h : strTup K v = some ks) : ∃ a o its n, v = .ref a ∧ K.lookup a = some o ∧ o.cls = .type "tuple" ∧ o.data = .seq its n ∧ its.size ≤ 10 ∧ ItemsAre (strKind P w) ks its.toList ∧ Vals (ks.map V.str) its.toList := by
  unfold strTup at h
  split at h
  · rename_i a
    split at h
    · rename_i c dd its n sl q
      split at h
      · rename_i hc
        split at h
        · rename_i hz
          obtain ⟨i1, i2⟩ := allStr_items (P := P) (w := w) h
          exact ⟨a, _, its, n, rfl, q, by rw [hc], rfl, hz, i1, i2⟩
        · cases h
      · cases h
    · cases h
  · cases h
theorem forms_list : ∀ {es : List DictEntry} {ft : List (List Str × List Str)}, (es.map fun e => (e.hash, strTup K e.key, strTup K e.val)) = (ft.map fun kf => ((tupleKind (strKind P w)).hash kf.1, some kf.1, some kf.2)) →
    ∃ xs : List (List Str × Addr × Value), es = xs.map (entryOfKey (tupleKind (strKind P w))) ∧ (∀ x ∈ xs, ∃ o items n, K.lookup x.2.1 = some o ∧ o.cls = .type "tuple" ∧ o.data = .seq items n ∧ ItemsAre (strKind P w) x.1 items.toList) ∧ xs.map (·.1) = ft.map (·.1) ∧
      Paired (fun x (kf : List Str × List Str) => x.1 = kf.1 ∧ ∃ t, x.2.2 = .ref t ∧ ∀ H, SqT K H t (kf.2.map V.str)) xs ft
  | [], [], _ => ⟨[], rfl, (fun x hx => nomatch hx), rfl, .nil⟩
  | [], _ :: _, h => by cases h
  | _ :: _, [], h => by cases h
  | e :: es, kf :: ft, h => by
    rw [List.map_cons, List.map_cons] at h
    injection h with h1 h2
    obtain ⟨xs, x1, x2, x3, x4⟩ := forms_list h2
    simp only [Prod.mk.injEq] at h1
    obtain ⟨e1, e2, e3⟩ := h1
    obtain ⟨a, o, its, n, ek, q1, q2, q3, q4, q5, _⟩ := strTup_ok (P := P) (w := w) e2
    obtain ⟨b, o2, its2, n2, ev, r1, r2, r3, r4, _, r6⟩ := strTup_ok (P := P) (w := w) e3
    refine ⟨(kf.1, a, e.val) :: xs, ?_, fun x hx => ?_, ?_, .cons ⟨rfl, b, ev, fun H => .inr ⟨o2, its2, n2, r1, r2, r3, Nat.le_trans r4 (by decide), r6⟩⟩ x4⟩
    · rw [List.map_cons, ← x1]
      congr 1
      obtain ⟨eh, ekey, eval⟩ := e
      dsimp only at e1 ek
      unfold entryOfKey
      rw [e1, ek]
    · rcases List.mem_cons.mp hx with z | z
      · rw [z]
        exact ⟨o, its, n, q1, q2, q3, q5⟩
      · exact x2 x z
    · rw [List.map_cons, List.map_cons, x3]
theorem forms_nodup : (formsT.map (·.1)).Nodup := by decide +kernel
theorem formsOk_of (g : mg "FORMS" = some (.ref (ga K "FORMS"))) (ok : (ga K "FORMS" == sysModules) = false) (h : formsW K = formsV P w) : Nonempty (FormsOk P w K mg) := by
  unfold formsW formsV at h
  split at h
  · rename_i c es ep sl q
    split at h
    · rename_i hc
      split at h
      · rename_i hs
        obtain ⟨xs, x1, x2, x3, x4⟩ := forms_list (Option.some.inj h)
        refine ⟨⟨ga K "FORMS", ⟨_, g, rfl⟩, ok, xs, ep, ?_, x2, by rw [x3]; exact forms_nodup, x4⟩⟩
        have e1 : es = (xs.map (entryOfKey (tupleKind (strKind P w)))).toArray := by rw [← x1]
        rw [q, ← e1, hc, Array.isEmpty_iff.mp hs]
      · cases h
    · cases h
  · cases h
end
end Sv
end
section
set_option Elab.async false
set_option linter.all false
set_option autoImplicit false
set_option maxRecDepth 100000
/-! X1: the facts that the end leans on (printed by genx.py). -/
namespace Sv
open PySem PySem.Spec PyProof.Rows L2 He
theorem tupS_ok {K : PySem.W.Frag} {x : Str} {l : List Str} (h : tupS K x l = true) (H : Hp) : SqT K H (ga K x) (l.map V.str) := by
  have := tupB_ok h H
  rw [List.map_map] at this
  exact this
/-- looks that are no Fa -/
structure ExL (K : PySem.W.Frag) : Prop where
  t_PAIRS_graphs : tupS K "PAIRS_graphs" (["below", "most", "is"] : List Str) = true
  t_KEYWORDS : tupS K "KEYWORDS" (["program", "of", "if", "else", "while", "loop", "end", "break", "next", "give", "skip", "plus", "less", "times", "below", "most", "is", "not", "and", "or"] : List Str) = true
  t_LOOPS : tupS K "LOOPS" (["while", "loop"] : List Str) = true
  t_PAIRS_programs : tupS K "PAIRS_programs" (["below", "most", "is"] : List Str) = true
  ic : insB K (ga K "Edge") = true
  kn : PySem.W.kitAny K (.ref (ga K "Edge")) [.type "tuple", .type "list"] = some false
  BadRow : errB K (ga K "BadRow") = true
  BadNumber : errB K (ga K "BadNumber") = true
  xrow : xfB K (ga K "BadRow") = true
  xnum : xfB K (ga K "BadNumber") = true
  pe : peB K (ga K "PointError") = true
  ne : ga K "Graph" ≠ ga K "Edge"
  fo : (ga K "FORMS" == sysModules) = false
theorem exL_ok {K : PySem.W.Frag} (h : exL K = true) : ExL K := by
  obtain ⟨h0, h⟩ := ba h
  obtain ⟨h1, h⟩ := ba h
  obtain ⟨h2, h⟩ := ba h
  obtain ⟨h3, h⟩ := ba h
  obtain ⟨h4, h⟩ := ba h
  obtain ⟨h5, h⟩ := ba h
  obtain ⟨h6, h⟩ := ba h
  obtain ⟨h7, h⟩ := ba h
  obtain ⟨h8, h⟩ := ba h
  obtain ⟨h9, h⟩ := ba h
  obtain ⟨h10, h⟩ := ba h
  obtain ⟨h11, h⟩ := ba h
  exact ⟨h0, h1, h2, h3, h4, of_decide_eq_true h5, h6, h7, h8, h9, h10, of_decide_eq_true h11, by rw [Bool.not_eq_true'] at h; exact h⟩
structure SaysL (P : Program) (w : World) (h : Heap) (K : PySem.W.Frag) : Prop where
  d : SaysD faL fnL K
  e : ExL K
  hd : PySem.W.codeHdIn K (cT K ("law", none)).1 (cT K ("law", none)).2 = true
  out : K.lookup (cT K ("law", none)).2 = none
  empty : h.get? (cT K ("law", none)).2 = some { cls := .none, data := .fields #[] }
  fo : formsW K = formsV P w
theorem saysL_of {P : Program} {w : World} {h : Heap} (e : obsL h.get? = valL P w) : SaysL P w h (KL h.get?) := by
  unfold obsL valL at e
  obtain ⟨e1, e'⟩ := Prod.mk.inj e
  obtain ⟨e2, e3⟩ := Prod.mk.inj e'
  obtain ⟨h1, h2⟩ := ba e2
  obtain ⟨h3, h4⟩ := ba (List.all_eq_true.mp h2 ("law", none) (List.mem_singleton.mpr rfl))
  have key : ∃ o, h.get? (cT (KL h.get?) ("law", none)).2 = some o ∧ emptyTab o = true := by
    cases q : h.get? (cT (KL h.get?) ("law", none)).2 with
    | none =>
      rw [q] at h4
      cases h4
    | some o =>
      rw [q] at h4
      exact ⟨o, rfl, h4⟩
  obtain ⟨o, q, z⟩ := key
  exact ⟨e1, exL_ok h1, h3, frT_none q z, by rw [q, emptyTab_eq z], e3⟩
def hookL (P : Program) : PySem.W.Hook where
  α := AlL
  obs := fun s => obsL s.heap.get?
  val := fun w => valL P w
  says := fun w h => ∃ K : PySem.W.Frag, K.In h ∧ SaysL P w h K
  of := fun _ _ e => ⟨_, frT_in, saysL_of e⟩
  keeps := fun _ _ _ ⟨K, hK, c⟩ k => ⟨K, PySem.W.Frag.In.keeps hK k, ⟨c.d, c.e, c.hd, c.out, k _ _ c.empty, c.fo⟩⟩
section
variable {P : Program} {w : World} {h : Heap} {K : PySem.W.Frag} {mg : Str → Option Value}

set_option maxHeartbeats 4000000
def txtOf (X : K.In h) (G : h.Ns mainGlobals mg) (c : SaysL P w h K) : Txt K mg where
  z_len := free_ok X G (c.d.fact 0)
  z_isinstance := free_ok X G (c.d.fact 1)
  z_abs := free_ok X G (c.d.fact 2)
  z_sum := free_ok X G (c.d.fact 3)
  z_any := free_ok X G (c.d.fact 4)
  z_all := free_ok X G (c.d.fact 5)
  z_range := free_ok X G (c.d.fact 6)
  z_enumerate := free_ok X G (c.d.fact 7)
  z_zip := free_ok X G (c.d.fact 8)
  z_int := free_ok X G (c.d.fact 9)
  z_bool := free_ok X G (c.d.fact 10)
  z_str := free_ok X G (c.d.fact 11)
  z_tuple := free_ok X G (c.d.fact 12)
  z_list := free_ok X G (c.d.fact 13)
  z_dict := free_ok X G (c.d.fact 14)
  g_BEGIN := by
    obtain ⟨t, h⟩ := int_ok X G (c.d.fact 15)
    exact ⟨_, h, t, rfl⟩
  g_END := by
    obtain ⟨t, h⟩ := int_ok X G (c.d.fact 16)
    exact ⟨_, h, t, rfl⟩
  g_FINISH := by
    obtain ⟨t, h⟩ := int_ok X G (c.d.fact 17)
    exact ⟨_, h, t, rfl⟩
  a_PAIRS_graphs := ga K "PAIRS_graphs"
  g_PAIRS_graphs := ⟨_, (glo_ok X G (c.d.fact 18)), rfl⟩
  t_PAIRS_graphs := fun H => tupS_ok c.e.t_PAIRS_graphs H
  a_KEYWORDS := ga K "KEYWORDS"
  g_KEYWORDS := ⟨_, (glo_ok X G (c.d.fact 19)), rfl⟩
  t_KEYWORDS := fun H => tupS_ok c.e.t_KEYWORDS H
  g_LETTERS := by
    obtain ⟨t, h⟩ := str_ok X G (c.d.fact 20)
    exact ⟨_, h, t, rfl⟩
  g_DIGITS := by
    obtain ⟨t, h⟩ := str_ok X G (c.d.fact 21)
    exact ⟨_, h, t, rfl⟩
  g_GREATEST := by
    obtain ⟨t, h⟩ := int_ok X G (c.d.fact 22)
    exact ⟨_, h, t, rfl⟩
  g_GREATEST_FACTOR := by
    obtain ⟨t, h⟩ := int_ok X G (c.d.fact 23)
    exact ⟨_, h, t, rfl⟩
  g_MOST_INPUTS := by
    obtain ⟨t, h⟩ := int_ok X G (c.d.fact 24)
    exact ⟨_, h, t, rfl⟩
  g_MOST_STATEMENTS := by
    obtain ⟨t, h⟩ := int_ok X G (c.d.fact 25)
    exact ⟨_, h, t, rfl⟩
  g_MOST_PAIRS := by
    obtain ⟨t, h⟩ := int_ok X G (c.d.fact 26)
    exact ⟨_, h, t, rfl⟩
  g_MOST_PARTS := by
    obtain ⟨t, h⟩ := int_ok X G (c.d.fact 27)
    exact ⟨_, h, t, rfl⟩
  g_MOST_NAMES := by
    obtain ⟨t, h⟩ := int_ok X G (c.d.fact 28)
    exact ⟨_, h, t, rfl⟩
  a_LOOPS := ga K "LOOPS"
  g_LOOPS := ⟨_, (glo_ok X G (c.d.fact 29)), rfl⟩
  t_LOOPS := fun H => tupS_ok c.e.t_LOOPS H
  a_PAIRS_programs := ga K "PAIRS_programs"
  g_PAIRS_programs := ⟨_, (glo_ok X G (c.d.fact 30)), rfl⟩
  t_PAIRS_programs := fun H => tupS_ok c.e.t_PAIRS_programs H
  d_is_int := defOk_of (glo_ok X G (c.d.fact 31)) (c.d.def_ 0 (d := dFn "is_int" (topS 8))) (fun kV doc pm an cdv ct us hl => match us, (show us.length = 1 from hl) with | [a], _ => rfl)
  d_is_row := defOk_of (glo_ok X G (c.d.fact 32)) (c.d.def_ 1 (d := dFn "is_row" (topS 9))) (fun kV doc pm an cdv ct us hl => match us, (show us.length = 1 from hl) with | [a], _ => rfl)
  d_check_from_0 := defOk_of (glo_ok X G (c.d.fact 33)) (c.d.def_ 2 (d := dFn "check_from_0" (topS 10))) (fun kV doc pm an cdv ct us hl => match us, (show us.length = 2 from hl) with | [a, b], _ => rfl)
  d_as_tuples := defOk_of (glo_ok X G (c.d.fact 34)) (c.d.def_ 3 (d := dFn "as_tuples" (topS 11))) (fun kV doc pm an cdv ct us hl => match us, (show us.length = 1 from hl) with | [a], _ => rfl)
  d_values_at := defOk_of (glo_ok X G (c.d.fact 35)) (c.d.def_ 4 (d := dFn "values_at" (topS 13))) (fun kV doc pm an cdv ct us hl => match us, (show us.length = 1 from hl) with | [a], _ => rfl)
  d_operand_value := defOk_of (glo_ok X G (c.d.fact 36)) (c.d.def_ 5 (d := dFn "operand_value" (topS 14))) (fun kV doc pm an cdv ct us hl => match us, (show us.length = 2 from hl) with | [a, b], _ => rfl)
  d_value_of := defOk_of (glo_ok X G (c.d.fact 37)) (c.d.def_ 6 (d := dFn "value_of" (topS 15))) (fun kV doc pm an cdv ct us hl => match us, (show us.length = 2 from hl) with | [a, b], _ => rfl)
  d_holds := defOk_of (glo_ok X G (c.d.fact 38)) (c.d.def_ 7 (d := dFn "holds" (topS 16))) (fun kV doc pm an cdv ct us hl => match us, (show us.length = 2 from hl) with | [a, b], _ => rfl)
  d_is_inputs := defOk_of (glo_ok X G (c.d.fact 39)) (c.d.def_ 8 (d := dFn "is_inputs" (topS 17))) (fun kV doc pm an cdv ct us hl => match us, (show us.length = 2 from hl) with | [a, b], _ => rfl)
  d_check_rows := defOk_of (glo_ok X G (c.d.fact 40)) (c.d.def_ 9 (d := dFn "check_rows" (topS 18))) (fun kV doc pm an cdv ct us hl => match us, (show us.length = 2 from hl) with | [a, b], _ => rfl)
  d_graph_of := defOk_of (glo_ok X G (c.d.fact 41)) (c.d.def_ 10 (d := dFn "graph_of" (topS 27))) (fun kV doc pm an cdv ct us hl => match us, (show us.length = 1 from hl) with | [a], _ => rfl)
  d_is_open := defOk_of (glo_ok X G (c.d.fact 42)) (c.d.def_ 11 (d := dFn "is_open" (topS 28))) (fun kV doc pm an cdv ct us hl => match us, (show us.length = 2 from hl) with | [a, b], _ => rfl)
  d_tally := defOk_of (glo_ok X G (c.d.fact 43)) (c.d.def_ 12 (d := dFn "tally" (topS 30))) (fun kV doc pm an cdv ct us hl => match us, (show us.length = 4 from hl) with | [a, b, c, d], _ => rfl)
  d_counts := defOk_of (glo_ok X G (c.d.fact 44)) (c.d.def_ 13 (d := dFn "counts" (topS 31))) (fun kV doc pm an cdv ct us hl => match us, (show us.length = 3 from hl) with | [a, b, c], _ => rfl)
  d_is_name := defOk_of (glo_ok X G (c.d.fact 45)) (c.d.def_ 14 (d := dFn "is_name" (topS 46))) (fun kV doc pm an cdv ct us hl => match us, (show us.length = 1 from hl) with | [a], _ => rfl)
  d_is_plain := defOk_of (glo_ok X G (c.d.fact 46)) (c.d.def_ 15 (d := dFn "is_plain" (topS 47))) (fun kV doc pm an cdv ct us hl => match us, (show us.length = 2 from hl) with | [a, b], _ => rfl)
  d_form_of := defOk_of (glo_ok X G (c.d.fact 47)) (c.d.def_ 16 (d := dFn "form_of" (topS 48))) (fun kV doc pm an cdv ct us hl => match us, (show us.length = 2 from hl) with | [a, b], _ => rfl)
  d_check_block := defOk_of (glo_ok X G (c.d.fact 48)) (c.d.def_ 17 (d := dFn "check_block" (topS 49))) (fun kV doc pm an cdv ct us hl => match us, (show us.length = 2 from hl) with | [a, b], _ => rfl)
  d_check_part := defOk_of (glo_ok X G (c.d.fact 49)) (c.d.def_ 18 (d := dFn "check_part" (topS 50))) (fun kV doc pm an cdv ct us hl => match us, (show us.length = 3 from hl) with | [a, b, c], _ => rfl)
  d_blocks_of := defOk_of (glo_ok X G (c.d.fact 50)) (c.d.def_ 19 (d := dFn "blocks_of" (topS 51))) (fun kV doc pm an cdv ct us hl => match us, (show us.length = 1 from hl) with | [a], _ => rfl)
  d_statements_in := defOk_of (glo_ok X G (c.d.fact 51)) (c.d.def_ 20 (d := dFn "statements_in" (topS 52))) (fun kV doc pm an cdv ct us hl => match us, (show us.length = 1 from hl) with | [a], _ => rfl)
  d_parts_in := defOk_of (glo_ok X G (c.d.fact 52)) (c.d.def_ 21 (d := dFn "parts_in" (topS 53))) (fun kV doc pm an cdv ct us hl => match us, (show us.length = 1 from hl) with | [a], _ => rfl)
  d_items_behind := defOk_of (glo_ok X G (c.d.fact 53)) (c.d.def_ 22 (d := dFn "items_behind" (topS 54))) (fun kV doc pm an cdv ct us hl => match us, (show us.length = 1 from hl) with | [a], _ => rfl)
  d_mentioned := defOk_of (glo_ok X G (c.d.fact 54)) (c.d.def_ 23 (d := dFn "mentioned" (topS 55))) (fun kV doc pm an cdv ct us hl => match us, (show us.length = 1 from hl) with | [a], _ => rfl)
  d_unlike_ones := defOk_of (glo_ok X G (c.d.fact 55)) (c.d.def_ 24 (d := dFn "unlike_ones" (topS 56))) (fun kV doc pm an cdv ct us hl => match us, (show us.length = 1 from hl) with | [a], _ => rfl)
  d__law_pen := defOk_of (glo_ok X G (c.d.fact 56)) (c.d.def_ 25 (d := dFn "_law_pen" (topS 59))) (fun kV doc pm an cdv ct us hl => match us, (show us.length = 1 from hl) with | [a], _ => rfl)
  d__law_draw := defOk_of (glo_ok X G (c.d.fact 57)) (c.d.def_ 26 (d := dFn "_law_draw" (topS 60))) (fun kV doc pm an cdv ct us hl => match us, (show us.length = 2 from hl) with | [a, b], _ => rfl)
  d__law_pick := defOk_of (glo_ok X G (c.d.fact 58)) (c.d.def_ 27 (d := dFn "_law_pick" (topS 61))) (fun kV doc pm an cdv ct us hl => match us, (show us.length = 2 from hl) with | [a, b], _ => rfl)
  d__law_far := defOk_of (glo_ok X G (c.d.fact 59)) (c.d.def_ 28 (d := dFn "_law_far" (topS 62))) (fun kV doc pm an cdv ct us hl => match us, (show us.length = 1 from hl) with | [a], _ => rfl)
  d__law_is_int := defOk_of (glo_ok X G (c.d.fact 60)) (c.d.def_ 29 (d := dFn "_law_is_int" (topS 63))) (fun kV doc pm an cdv ct us hl => match us, (show us.length = 1 from hl) with | [a], _ => rfl)
  d__law_listed := defOk_of (glo_ok X G (c.d.fact 61)) (c.d.def_ 30 (d := dFn "_law_listed" (topS 64))) (fun kV doc pm an cdv ct us hl => match us, (show us.length = 2 from hl) with | [a, b], _ => rfl)
  d__law_some_operand := defOk_of (glo_ok X G (c.d.fact 62)) (c.d.def_ 31 (d := dFn "_law_some_operand" (topS 65))) (fun kV doc pm an cdv ct us hl => match us, (show us.length = 2 from hl) with | [a, b], _ => rfl)
  d__law_some_value := defOk_of (glo_ok X G (c.d.fact 63)) (c.d.def_ 32 (d := dFn "_law_some_value" (topS 66))) (fun kV doc pm an cdv ct us hl => match us, (show us.length = 2 from hl) with | [a, b], _ => rfl)
  d__law_some_pair := defOk_of (glo_ok X G (c.d.fact 64)) (c.d.def_ 33 (d := dFn "_law_some_pair" (topS 67))) (fun kV doc pm an cdv ct us hl => match us, (show us.length = 2 from hl) with | [a, b], _ => rfl)
  d__law_some_condition := defOk_of (glo_ok X G (c.d.fact 65)) (c.d.def_ 34 (d := dFn "_law_some_condition" (topS 68))) (fun kV doc pm an cdv ct us hl => match us, (show us.length = 2 from hl) with | [a, b], _ => rfl)
  d__law_plain_statement := defOk_of (glo_ok X G (c.d.fact 66)) (c.d.def_ 35 (d := dFn "_law_plain_statement" (topS 69))) (fun kV doc pm an cdv ct us hl => match us, (show us.length = 3 from hl) with | [a, b, c], _ => rfl)
  d__law_some_block := defOk_of (glo_ok X G (c.d.fact 67)) (c.d.def_ 36 (d := dFn "_law_some_block" (topS 70))) (fun kV doc pm an cdv ct us hl => match us, (show us.length = 4 from hl) with | [a, b, c, d], _ => rfl)
  d__law_size := defOk_of (glo_ok X G (c.d.fact 68)) (c.d.def_ 37 (d := dFn "_law_size" (topS 71))) (fun kV doc pm an cdv ct us hl => match us, (show us.length = 1 from hl) with | [a], _ => rfl)
  d__law_some_program := defOk_of (glo_ok X G (c.d.fact 69)) (c.d.def_ 38 (d := dFn "_law_some_program" (topS 72))) (fun kV doc pm an cdv ct us hl => match us, (show us.length = 1 from hl) with | [a], _ => rfl)
  d__law_fresh := defOk_of (glo_ok X G (c.d.fact 70)) (c.d.def_ 39 (d := dFn "_law_fresh" (topS 73))) (fun kV doc pm an cdv ct us hl => match us, (show us.length = 1 from hl) with | [a], _ => rfl)
  d__law_stand_condition := defOk_of (glo_ok X G (c.d.fact 71)) (c.d.def_ 40 (d := dFn "_law_stand_condition" (topS 74))) (fun kV doc pm an cdv ct us hl => match us, (show us.length = 5 from hl) with | [a, b, c, d, e], _ => rfl)
  d__law_stand_statement := defOk_of (glo_ok X G (c.d.fact 72)) (c.d.def_ 41 (d := dFn "_law_stand_statement" (topS 75))) (fun kV doc pm an cdv ct us hl => match us, (show us.length = 3 from hl) with | [a, b, c], _ => rfl)
  d__law_stand_block := defOk_of (glo_ok X G (c.d.fact 73)) (c.d.def_ 42 (d := dFn "_law_stand_block" (topS 76))) (fun kV doc pm an cdv ct us hl => match us, (show us.length = 3 from hl) with | [a, b, c], _ => rfl)
  d__law_graph := defOk_of (glo_ok X G (c.d.fact 74)) (c.d.def_ 43 (d := dFn "_law_graph" (topS 77))) (fun kV doc pm an cdv ct us hl => match us, (show us.length = 1 from hl) with | [a], _ => rfl)
  d__law_value_of := defOk_of (glo_ok X G (c.d.fact 75)) (c.d.def_ 44 (d := dFn "_law_value_of" (topS 78))) (fun kV doc pm an cdv ct us hl => match us, (show us.length = 2 from hl) with | [a, b], _ => rfl)
  d__law_pair_holds := defOk_of (glo_ok X G (c.d.fact 76)) (c.d.def_ 45 (d := dFn "_law_pair_holds" (topS 79))) (fun kV doc pm an cdv ct us hl => match us, (show us.length = 2 from hl) with | [a, b], _ => rfl)
  d__law_relisted := defOk_of (glo_ok X G (c.d.fact 77)) (c.d.def_ 46 (d := dFn "_law_relisted" (topS 80))) (fun kV doc pm an cdv ct us hl => match us, (show us.length = 2 from hl) with | [a, b], _ => rfl)
  d__law_program_of := defOk_of (glo_ok X G (c.d.fact 78)) (c.d.def_ 47 (d := dFn "_law_program_of" (topS 81))) (fun kV doc pm an cdv ct us hl => match us, (show us.length = 2 from hl) with | [a, b], _ => rfl)
  d__law_inputs := defOk_of (glo_ok X G (c.d.fact 79)) (c.d.def_ 48 (d := dFn "_law_inputs" (topS 82))) (fun kV doc pm an cdv ct us hl => match us, (show us.length = 2 from hl) with | [a, b], _ => rfl)
  d__law_pairs := defOk_of (glo_ok X G (c.d.fact 80)) (c.d.def_ 49 (d := dFn "_law_pairs" (topS 83))) (fun kV doc pm an cdv ct us hl => match us, (show us.length = 2 from hl) with | [a, b], _ => rfl)
  d__law_turn := defOk_of (glo_ok X G (c.d.fact 81)) (c.d.def_ 50 (d := dFn "_law_turn" (topS 84))) (fun kV doc pm an cdv ct us hl => match us, (show us.length = 2 from hl) with | [a, b], _ => rfl)
  d__law_go_condition := defOk_of (glo_ok X G (c.d.fact 82)) (c.d.def_ 51 (d := dFn "_law_go_condition" (topS 85))) (fun kV doc pm an cdv ct us hl => match us, (show us.length = 2 from hl) with | [a, b], _ => rfl)
  d__law_go_block := defOk_of (glo_ok X G (c.d.fact 83)) (c.d.def_ 52 (d := dFn "_law_go_block" (topS 86))) (fun kV doc pm an cdv ct us hl => match us, (show us.length = 2 from hl) with | [a, b], _ => rfl)
  d__law_go_statement := defOk_of (glo_ok X G (c.d.fact 84)) (c.d.def_ 53 (d := dFn "_law_go_statement" (topS 87))) (fun kV doc pm an cdv ct us hl => match us, (show us.length = 2 from hl) with | [a, b], _ => rfl)
  d__law_go_round := defOk_of (glo_ok X G (c.d.fact 85)) (c.d.def_ 54 (d := dFn "_law_go_round" (topS 88))) (fun kV doc pm an cdv ct us hl => match us, (show us.length = 2 from hl) with | [a, b], _ => rfl)
  d__law_run := defOk_of (glo_ok X G (c.d.fact 86)) (c.d.def_ 55 (d := dFn "_law_run" (topS 89))) (fun kV doc pm an cdv ct us hl => match us, (show us.length = 3 from hl) with | [a, b, c], _ => rfl)
  d__law_counted := defOk_of (glo_ok X G (c.d.fact 87)) (c.d.def_ 56 (d := dFn "_law_counted" (topS 90))) (fun kV doc pm an cdv ct us hl => match us, (show us.length = 4 from hl) with | [a, b, c, d], _ => rfl)
  d__law_flows := defOk_of (glo_ok X G (c.d.fact 88)) (c.d.def_ 57 (d := dFn "_law_flows" (topS 91))) (fun kV doc pm an cdv ct us hl => match us, (show us.length = 3 from hl) with | [a, b, c], _ => rfl)
  d__law_fault := defOk_of (glo_ok X G (c.d.fact 89)) (c.d.def_ 58 (d := dFn "_law_fault" (topS 92))) (fun kV doc pm an cdv ct us hl => match us, (show us.length = 1 from hl) with | [a], _ => rfl)
  C_Edge := ga K "Edge"
  cl_Edge := cls_ok (c.d.fact 90)
  n_Edge_start := noat_ok (c.d.fact 91)
  n_Edge_deed := noat_ok (c.d.fact 92)
  n_Edge_end := noat_ok (c.d.fact 93)
  m_Edge := makOk_of (glo_ok X G (c.d.fact 94)) (mkr_ok (c.d.fact 95)) (c.d.def_ 59 (d := dMe "Edge" "__init__" "Edge.__init__" (clsS 24 0))) (fun kV doc pm an cdv ct us hl => match us, (show us.length = 4 from hl) with | [a, b, c, d], _ => rfl)
  C_Graph := ga K "Graph"
  cl_Graph := cls_ok (c.d.fact 96)
  n_Graph_points := noat_ok (c.d.fact 97)
  n_Graph_edges := noat_ok (c.d.fact 98)
  m_Graph := makOk_of (glo_ok X G (c.d.fact 99)) (mkr_ok (c.d.fact 100)) (c.d.def_ 60 (d := dMe "Graph" "__init__" "Graph.__init__" (clsS 25 0))) (fun kV doc pm an cdv ct us hl => match us, (show us.length = 3 from hl) with | [a, b, c], _ => rfl)
  C_Builder := ga K "Builder"
  cl_Builder := cls_ok (c.d.fact 101)
  n_Builder_many := noat_ok (c.d.fact 102)
  n_Builder_made := noat_ok (c.d.fact 103)
  m_Builder := makOk_of (glo_ok X G (c.d.fact 104)) (mkr_ok (c.d.fact 105)) (c.d.def_ 61 (d := dMe "Builder" "__init__" "Builder.__init__" (clsS 26 0))) (fun kV doc pm an cdv ct us hl => match us, (show us.length = 1 from hl) with | [a], _ => rfl)
  e_Builder_fresh := metOk_of (meth_ok (c.d.fact 106)) (c.d.def_ 62 (d := dMe "Builder" "fresh" "Builder.fresh" (clsS 26 1))) (fun kV doc pm an cdv ct us hl => match us, (show us.length = 1 from hl) with | [a], _ => rfl)
  e_Builder_tie := metOk_of (meth_ok (c.d.fact 107)) (c.d.def_ 63 (d := dMe "Builder" "tie" "Builder.tie" (clsS 26 2))) (fun kV doc pm an cdv ct us hl => match us, (show us.length = 4 from hl) with | [a, b, c, d], _ => rfl)
  e_Builder_stand_block := metOk_of (meth_ok (c.d.fact 108)) (c.d.def_ 64 (d := dMe "Builder" "stand_block" "Builder.stand_block" (clsS 26 3))) (fun kV doc pm an cdv ct us hl => match us, (show us.length = 3 from hl) with | [a, b, c], _ => rfl)
  e_Builder_stand_statement := metOk_of (meth_ok (c.d.fact 109)) (c.d.def_ 65 (d := dMe "Builder" "stand_statement" "Builder.stand_statement" (clsS 26 4))) (fun kV doc pm an cdv ct us hl => match us, (show us.length = 3 from hl) with | [a, b, c], _ => rfl)
  e_Builder_plain := metOk_of (meth_ok (c.d.fact 110)) (c.d.def_ 66 (d := dMe "Builder" "plain" "Builder.plain" (clsS 26 5))) (fun kV doc pm an cdv ct us hl => match us, (show us.length = 3 from hl) with | [a, b, c], _ => rfl)
  e_Builder_stand_condition := metOk_of (meth_ok (c.d.fact 111)) (c.d.def_ 67 (d := dMe "Builder" "stand_condition" "Builder.stand_condition" (clsS 26 6))) (fun kV doc pm an cdv ct us hl => match us, (show us.length = 5 from hl) with | [a, b, c, d, e], _ => rfl)
  C_Program := ga K "Program"
  cl_Program := cls_ok (c.d.fact 112)
  n_Program_name := noat_ok (c.d.fact 113)
  n_Program_inputs := noat_ok (c.d.fact 114)
  n_Program_block := noat_ok (c.d.fact 115)
  m_Program := makOk_of (glo_ok X G (c.d.fact 116)) (mkr_ok (c.d.fact 117)) (c.d.def_ 68 (d := dMe "Program" "__init__" "Program.__init__" (clsS 57 0))) (fun kV doc pm an cdv ct us hl => match us, (show us.length = 4 from hl) with | [a, b, c, d], _ => rfl)
  e_Program_names := metOk_of (meth_ok (c.d.fact 118)) (c.d.def_ 69 (d := dMe "Program" "names" "Program.names" (clsS 57 2))) (fun kV doc pm an cdv ct us hl => match us, (show us.length = 1 from hl) with | [a], _ => rfl)
def txeOf (X : K.In h) (G : h.Ns mainGlobals mg) (c : SaysL P w h K) : Txe K mg (txtOf X G c) := ⟨insB_ok (txtOf X G c).cl_Edge c.e.ic, c.e.kn⟩
def txxOf (X : K.In h) (G : h.Ns mainGlobals mg) (c : SaysL P w h K) : Txx K mg := ⟨ga K "PointError", peB_ok (glo_ok X G (c.d.fact 121)) c.e.pe, ga K "BadRow", ga K "BadNumber", errC_of (glo_ok X G (c.d.fact 119)) c.e.BadRow (c.d.def_ 70 (d := dMe "BadRow" "__init__" "BadRow.__init__" (clsS 5 0))) (fun kV doc pm an cdv ct us hl => match us, (show us.length = 2 from hl) with | [a, b], _ => rfl), errC_of (glo_ok X G (c.d.fact 120)) c.e.BadNumber (c.d.def_ 71 (d := dMe "BadNumber" "__init__" "BadNumber.__init__" (clsS 2 0))) (fun kV doc pm an cdv ct us hl => match us, (show us.length = 3 from hl) with | [a, b, c], _ => rfl), (txtOf X G c).d_check_rows, (txtOf X G c).d_is_inputs, (txtOf X G c).d_check_from_0, (txtOf X G c).d_counts⟩
theorem txgOf (X : K.In h) (G : h.Ns mainGlobals mg) (c : SaysL P w h K) : Txg K mg (txxOf X G c) := ⟨xfB_ok c.e.xrow, xfB_ok c.e.xnum, exm_ok (c.d.fact 123), exm_ok (c.d.fact 124), exm_ok (c.d.fact 125)⟩
theorem formsOf (X : K.In h) (G : h.Ns mainGlobals mg) (c : SaysL P w h K) : Nonempty (FormsOk P w K mg) := formsOk_of (glo_ok X G (c.d.fact 122)) c.e.fo c.fo
theorem lawDef (c : SaysL P w h K) : ∃ fd, FunD K "law" "law" (C8.fnArgs (topS 93)) (C8.fnBody (topS 93)) (C8.fnScope (topS 93)) [] [] (ga K "law") fd := (c.d.def_ 72 (d := dFn "law" (topS 93)))
theorem lawGlo (X : K.In h) (G : h.Ns mainGlobals mg) (c : SaysL P w h K) : mg "law" = some (.ref (ga K "law")) := (glo_ok X G (c.d.fact 126))
theorem lawBinds : BindsAs "law" "law" (topS 93) ["_law_script"] := (fun kV doc pm an cdv ct us hl => match us, (show us.length = 1 from hl) with | [a], _ => rfl)
end
end Sv
end
section
set_option Elab.async false
set_option linter.all false
set_option maxRecDepth 100000
set_option maxHeartbeats 0
noncomputable section
namespace Hd
open PySem PySem.W PySem.Calls PyProof.Rows HandSHeadRun
abbrev HL : Hook := Sv.hookL P
def obL (s : SharedT) : HL.α := Sv.obsL (getT s)
theorem obL_eq (s : SharedT) : obL s = HL.obs s.abs := by
  have e : getT s = s.abs.heap.get? := funext (getT_eq s)
  show Sv.obsL (getT s) = Sv.obsL s.abs.heap.get?
  rw [e]
theorem run_law (w : World) (os : OsState) (q : Pos) : (chain (denQ tabQ) w os q).map (lookAll HL obL w) = some (true, true, openGood qv others, HL.val w) := run_early w os q
end Hd
end
end
set_option Elab.async false
set_option linter.all false
set_option maxRecDepth 100000
set_option maxHeartbeats 0
noncomputable section
namespace Hd
open PySem PySem.W PySem.Calls PyProof.Rows HandSHeadRun
abbrev LW : OpenLaw := PySem.Challenge.rw_sevenpoints_k13_whole_counts_along_edges
abbrev dLaw : DefRec := topDef R.prog 93
theorem ch_ok : chainsOk qv = true := by kernel_rfl
theorem d_name : dLaw.name = ("law" : PySem.Str) := by kernel_rfl
/-- a code object that a function of K's has -/
theorem law_code {K : Frag} {fa : Addr} {fd : FuncData} (F : L2.FunD K "law" "law" (C8.fnArgs (Sv.topS 93)) (C8.fnBody (Sv.topS 93)) (C8.fnScope (Sv.topS 93)) [] [] fa fd) (e : fa = He.ga K "law") : fd.code = .ref (He.cT K ("law", none)).1 := by
  obtain ⟨oc, od, dV, kV, doc, pm, an, cdv, ct, osl, rfl, lk, hcd, _, _⟩ := F.ex
  obtain ⟨c, rfl⟩ := He.codeIn_ref hcd
  have z := He.codeOf_eq (p := ("law", none)) (c := c) (by rw [show He.fAd K ("law", none) = fa from e.symm]; exact lk) rfl
  show Value.ref c = .ref (He.codeOf K ("law", none))
  rw [z]
theorem law_at (w : World) (mg : PySem.Str → Option Value) (fa : Addr) (h : Heap) (Y : HL.says w h) (G : h.Ns mainGlobals mg) (g : mg dLaw.name = some (.ref fa)) : ∃ K : Frag, K.In h ∧ LamX.LawAtS LW w K C8.CX0 60 63 "_law_script" mg fa h := by
  obtain ⟨K, KX, c⟩ := Y
  rw [d_name] at g
  have e : fa = He.ga K "law" := by
    have z := g.symm.trans (Sv.lawGlo KX G c)
    cases z
    rfl
  obtain ⟨fd, F⟩ := Sv.lawDef c
  rw [← e] at F
  have hc := law_code F e
  refine ⟨K, KX, fd, [He.cT K ("law", none)], Sv.spLaw K (He.cT K ("law", none)).2, fun p hp => ?_, fun p hp => ?_, fun p hp => ?_, fun s u => L2.FunD.bindsA F Sv.lawBinds s [u] rfl, fun H a ns hl _ hT hS => ?_, fun base KB GB hT => ?_⟩
  · rw [List.mem_singleton.mp hp]
    exact c.empty
  · rw [List.mem_singleton.mp hp]
    exact c.out
  · rw [List.mem_singleton.mp hp]
    exact codeHd_of_K KX c.hd
  · exact ⟨a, ns, rfl, hS, hl, hT _ (List.mem_singleton.mpr rfl), fun _ => rfl⟩
  · obtain ⟨Fo⟩ := Sv.formsOf KX G c
    exact Sv.law_ok (Sv.txtOf KX G c) (Sv.txeOf KX G c) Fo (Sv.txxOf KX G c) (Sv.txgOf KX G c) c.e.ne (Sv.fun_of F) hc (hT _ (List.mem_singleton.mpr rfl))
end Hd
end
open PySem PySem.W PySem.Calls PyProof.Rows
theorem PySem.Challenge.cw_sevenpoints_k13_whole_counts_along_edges_holds : PySem.Challenge.rw_sevenpoints_k13_whole_counts_along_edges.Holds := by
  w_on; o_law
  refine Hd.holds_behind (r := OpenLaw.row PySem.Challenge.rw_sevenpoints_k13_whole_counts_along_edges) (q := Hd.qv) (loose := Hd.others) (XP := XL Hd.qv []) (YP := Hd.HL.says) (d := Hd.dLaw) (kwd := []) (Hd.behind_any Hd.obL_eq Hd.ch_ok Hd.run_law)
    rfl rfl Hd.HL.keeps XL.keeps (by kernel_rfl) (by kernel_rfl) (by kernel_rfl) (by first | assumption | rfl | decide +kernel) (by decide +kernel) ⟨rfl, rfl, rfl, rfl, rfl, by decide +kernel⟩ ?hw ?hc
  case hw => w_witness2
  case hc => exact LamX.walk_ofTsE (l := PySem.Challenge.rw_sevenpoints_k13_whole_counts_along_edges) (n := 63) (k := 60) (x := "_law_script") (CX := fun _ => C8.CX0) rfl (by decide) (by kernel_rfl) ⟨rfl, by decide, by decide⟩ Hd.law_at (fun _ _ _ _ _ z => z)
