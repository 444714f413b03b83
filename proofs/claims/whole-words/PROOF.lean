import PyProof.Rows.All
import Wide.All
import OpenK.AllK
import Wide.FinOn
import HandS.Head2
import HandS.HeadHook4
import PyProof.DictTable
import KE.KDictKeyed
import Open.Head
import HandS.Words
import HandS.ForMost
import HandS.Property
import HandS.TryOnly
import HandS.ExcInit
import HandS.Exc
import HandS.WordsExc
import HandS.Defaults
import HandS.HeadHook2
import HandS.HeadHook1
import HandS.Walk
import PyProof.AssignAttr
import PyProof.EqAt
import PyProof.NeKinds
import PyProof.StrOps2
import HandS.HeadEnd
import PySem.Challenge.RW_mobileair_k70_whole_words_in_order
section
set_option Elab.async false
set_option linter.all false
set_option maxRecDepth 100000
/-! Runs of a module's top in parts: by the kernel, by logic. -/
namespace HdR
open PySem PySem.W PySem.Calls PyProof.Rows HandSHeadRun

theorem wp_wrapped {a b : Type} {M : Model} {C : Ctx} (m : Sem a) (K : a → Sem b) (H : Value → Sem b) (gd : Bool → Bool) (lv : List Value → List Value) (Q : b → Pos → Shared → Prop) (E : Value → Pos → Shared → Prop) (p : Pos) (s : Shared) :
    Sem.wp M C (m.wrap K H gd lv) Q E p s = Sem.wp M C m (fun x p' s' => Sem.wp M C (K x) Q E p' s') (fun e p' s' => Sem.wp M C (H e) Q E p' s') p s := by
  induction m generalizing p s <;> simp only [Sem.wrap, Sem.wp, *]

/-- calm steps, one after another -/
inductive Cr (den : Code → Sem Fin) (p : Program) (w : World) : Shared → Thread → Shared → Thread → Prop where
  | refl (s : Shared) (t : Thread) : Cr den p w s t s t
  | next {s s1 s2 : Shared} {t t1 t2 : Thread} (hc : t.calm = true) (hs : step den p w s t = .go s1 t1) (r : Cr den p w s1 t1 s2 t2) : Cr den p w s t s2 t2
section
variable {den : Code → Sem Fin} {p : Program} {w : World} {s s1 s2 : Shared} {t t1 t2 : Thread}
theorem Cr.trans (a : Cr den p w s t s1 t1) (b : Cr den p w s1 t1 s2 t2) : Cr den p w s t s2 t2 := by
  induction a with
  | refl => exact b
  | next hc hs _ ih => exact .next hc hs (ih b)
theorem Cr.life (a : Cr den p w s t s1 t1) : s1.heap.life = s.heap.life := by
  induction a with
  | refl => rfl
  | next hc hs _ ih => exact ih.trans (step_life den p w _ _ _ _ hs)
theorem Cr.sched (a : Cr den p w s t s1 t1) (hz : s.asleep) : ∃ m, schedN den p w m (.single s t) = .running (.single s1 t1) := by
  induction a with
  | refl => exact ⟨0, rfl⟩
  | @next s s1 s2 t t1 t2 hc hs _ ih =>
    obtain ⟨m, e⟩ := ih (Shared.asleep_of_life (step_life den p w _ _ _ _ hs) hz)
    refine ⟨m + 1, ?_⟩
    have q : sstep den p w (.single s t) = .go (.single s1 t1) := by
      rcases sstep_single den p w s t hc hz with q | q
      · rw [q, hs]; rfl
      · rw [hs] at q; cases q
    simp only [schedN, q]
    exact e
end

/-! ### by the kernel -/
def goS (st : SharedT → Thread → Option (SharedT × Thread)) (n0 : Nat) (ann : Option Value) : Nat → SharedT → Thread → Option (SharedT × Thread)
  | 0, x, th => some (x, th)
  | k + 1, x, th => match through th with
    | true => none
    | false => match stepOk n0 ann th with
      | false => none
      | true => match st x th with
        | some (y, thn) => frS y fun y => goS st n0 ann k y thn
        | none => none
/-- what the top may not touch is kept -/
structure Kp (n0 : Nat) (ann : Option Value) (s s' : Shared) : Prop where
  os : s'.os = s.os
  kept : ∀ b o, b < n0 → b ≠ mainNs → b ≠ cStatics → ann ≠ some (.ref b) → s.heap.get? b = some o → s'.heap.get? b = some o
theorem Kp.refl (n0 : Nat) (ann : Option Value) (s : Shared) : Kp n0 ann s s := ⟨rfl, fun _ _ _ _ _ _ h => h⟩
theorem Kp.trans {n0 : Nat} {ann : Option Value} {s s1 s2 : Shared} (a : Kp n0 ann s s1) (b : Kp n0 ann s1 s2) : Kp n0 ann s s2 :=
  ⟨b.os.trans a.os, fun x o h1 h2 h3 h4 h => b.kept x o h1 h2 h3 h4 (a.kept x o h1 h2 h3 h4 h)⟩
theorem kp_step {den : Code → Sem Fin} {p : Program} {w : World} {n0 : Nat} {ann : Option Value} {s s1 : Shared} {t t1 : Thread} (hk : stepOk n0 ann t = true) (hs : step den p w s t = .go s1 t1) : t.calm = true ∧ Kp n0 ann s s1 := by
  have hk2 := Bool.and_eq_true_iff.mp hk
  refine ⟨hk2.1, step_os_same hs ?_, fun b o h1 h2 h3 h4 h => ?_⟩
  · have h := hk2.2
    cases e : t.cur with
    | os => rw [e] at h; cases h
    | _ => rfl
  · have h := hk2.2
    have eh := step_heap den p w s s1 t t1 hs
    rw [eh]
    cases e : t.cur with
    | update a q f k =>
      rw [e] at h
      have ne : b ≠ a := by
        intro z
        subst z
        simp only [Bool.or_eq_true, Nat.ble_eq, beq_iff_eq] at h
        rcases h with ((h | h) | h) | h
        · exact absurd h1 (Nat.not_lt.mpr h)
        · exact h2 h
        · exact h3 h
        · exact h4 h
      show (s.heap.update a f).get? b = some o
      rw [Heap.get?_update_ne _ _ _ _ ne]
      assumption
    | alloc x k =>
      show (s.heap.push x).get? b = some o
      exact Heap.get?_push_of_some x (by assumption)
    | _ => assumption
theorem goS_ok {tb : String → Option Builtin} {p : Program} {w : World} {n0 : Nat} {ann : Option Value} : ∀ {k : Nat} {x x' : SharedT} {th th' : Thread}, goS (stepT (denote tb) p w) n0 ann k x th = some (x', th') →
    Cr (denote tb) p w x.abs th x'.abs th' ∧ Kp n0 ann x.abs x'.abs
  | 0, x, x', th, th', h => by
    cases h
    exact ⟨.refl _ _, .refl _ _ _⟩
  | k + 1, x, x', th, th', h => by
    have h1 : (match through th with
      | true => none
      | false => match stepOk n0 ann th with
        | false => none
        | true => match stepT (denote tb) p w x th with
          | some (s2, t2) => frS s2 fun s2 => goS (stepT (denote tb) p w) n0 ann k s2 t2
          | none => none) = some (x', th') := h
    cases ht : through th with
    | true => rw [ht] at h1; cases h1
    | false =>
      rw [ht] at h1
      cases hk : stepOk n0 ann th with
      | false => rw [hk] at h1; cases h1
      | true =>
        rw [hk] at h1
        cases hs : stepT (denote tb) p w x th with
        | none => rw [hs] at h1; cases h1
        | some r =>
          obtain ⟨s2, t2⟩ := r
          rw [hs] at h1
          have h3 : (frS s2 fun s2 => goS (stepT (denote tb) p w) n0 ann k s2 t2) = some (x', th') := h1
          rw [frS_eq] at h3
          obtain ⟨c, k⟩ := goS_ok h3
          have q := stepT_spec hs
          obtain ⟨hc, k1⟩ := kp_step hk q
          exact ⟨.next hc q c, k1.trans k⟩

/-! ### the code below the frames -/
/-- the code that runs again once all frames but the last are popped -/
def bc : Code → List Frame → Code
  | c, [] => c
  | c, [_] => c
  | _, F :: G :: r => bc F.where_.1 (G :: r)
theorem bc_push {c : Code} {F : Frame} {r : List Frame} (h : r ≠ []) : bc c (F :: r) = bc F.where_.1 r := by
  cases r with
  | nil => exact absurd rfl h
  | cons G r => rfl
theorem bc_app {F : Frame} {r : List Frame} (h : r ≠ []) : ∀ (c : Code) (fs : List Frame), bc c (fs ++ F :: r) = bc F.where_.1 r
  | c, [] => bc_push h
  | c, G :: fs => by
    rw [List.cons_append, bc_push (by simp)]
    exact bc_app h _ fs
theorem split_is {fs r : List Frame} {n : Nat} {k : GenResult → Sem Fin} {c : Code} {q : Pos} : ∀ {st : List Frame}, splitAtGen st = some (fs, (n, k, c, q), r) → ∃ l, st = fs ++ .gen n k l c q :: r
  | [], h => by cases h
  | .gen n' k' l' c' q' :: rest, h => by
    unfold splitAtGen at h
    cases h
    exact ⟨_, rfl⟩
  | .ret k' hh g l c' q' kk :: rest, h => by
    unfold splitAtGen at h
    cases e : splitAtGen rest with
    | none => rw [e] at h; exact nomatch h
    | some x =>
      obtain ⟨fs', ⟨n', k'', c'', q''⟩, r'⟩ := x
      rw [e] at h
      cases h
      obtain ⟨l2, z⟩ := split_is e
      exact ⟨l2, by rw [z]; rfl⟩
theorem bc_again {den : Code → Sem Fin} {p : Program} {w : World} {s s2 : Shared} {c code : Code} {pos : Pos} {st : List Frame} {t2 : Thread} (h : step den p w s ⟨.pure (.again c), code, pos, st⟩ = .go s2 t2) (hl : 2 ≤ st.length) :
    bc t2.code t2.stack = bc code st ∧ t2.stack.length = st.length ∧ t2.stack.getLast? = st.getLast? := by
  rcases s with ⟨heap, gens, drawn, toks, os⟩
  match st, hl with
  | F :: G :: r, _ =>
    cases F with
    | gen n k l cd p0 =>
      rw [step_again_gen] at h
      injection h with h1 h2
      subst h2
      exact ⟨rfl, rfl, rfl⟩
    | ret k hh g l cd p0 kept =>
      rw [PySem.W.step_again] at h
      injection h with h1 h2
      subst h2
      exact ⟨rfl, rfl, rfl⟩
section
variable {den : Code → Sem Fin} {p : Program} {w : World} {s s2 : Shared} {cur : Sem Fin} {code : Code} {pos : Pos} {pre : List Frame} {F : Frame} {t2 : Thread}
/-- over a frame F that is no generator's: a step keeps the code below, and F stays below -/
theorem bc_step (hF : splitAtGen [F] = none) (h : step den p w s ⟨cur, code, pos, pre ++ [F]⟩ = .go s2 t2) (h0 : pre = [] → (∀ f, cur ≠ .pure f) ∧ ∀ e, cur ≠ .raise e) : bc t2.code t2.stack = bc code (pre ++ [F]) := by
  have ne : ∀ l : List Frame, l ++ [F] ≠ [] := fun l z => by simp at z
  rcases s with ⟨heap, gens, drawn, toks, os⟩
  cases cur with
  | pure f =>
    cases pre with
    | nil => exact absurd rfl ((h0 rfl).1 f)
    | cons G pre =>
      cases f with
      | again c => exact (bc_again h (by simp)).1
      | done f =>
        rw [List.cons_append, bc_push (ne pre)]
        cases G <;> (simp only [List.cons_append, step, Step.go.injEq] at h; obtain ⟨rfl, rfl⟩ := h; rfl)
  | raise e =>
    cases pre with
    | nil => exact absurd rfl ((h0 rfl).2 e)
    | cons G pre =>
      rw [List.cons_append, bc_push (ne pre)]
      cases G <;> (simp only [List.cons_append, step, Step.go.injEq] at h; obtain ⟨rfl, rfl⟩ := h; rfl)
  | unsupported | register | fork | await => (simp only [step] at h; exact nomatch h)
  | finish e => (simp only [step] at h; split at h <;> exact nomatch h)
  | rule | «at» | alloc | loadIfAlive | point | fresh | ask | newGen | thread | os | stack | handled => simp only [step, Step.go.injEq] at h; obtain ⟨rfl, rfl⟩ := h; rfl
  | call c m g l k => simp only [step, Step.go.injEq] at h; obtain ⟨rfl, rfl⟩ := h; exact bc_push (ne pre)
  | load a q k =>
    cases e : heap.get? a with
    | none => (simp only [step, e] at h; exact nomatch h)
    | some o => simp only [step, e, Step.go.injEq] at h; obtain ⟨rfl, rfl⟩ := h; rfl
  | update a q f k =>
    cases e : Option.isSome (heap.get? a) with
    | false => (simp only [step, e, Bool.false_eq_true, if_false] at h; exact nomatch h)
    | true => simp only [step, e, if_true, Step.go.injEq] at h; obtain ⟨rfl, rfl⟩ := h; rfl
  | choose src n k =>
    by_cases e : n = 0
    · (simp only [step, e, if_true] at h; exact nomatch h)
    · simp only [step, e, if_false, Step.go.injEq] at h; obtain ⟨rfl, rfl⟩ := h; rfl
  | genState g k =>
    cases e : gens[g]? with
    | none => (simp only [step, e] at h; exact nomatch h)
    | some st => simp only [step, e, Step.go.injEq] at h; obtain ⟨rfl, rfl⟩ := h; rfl
  | resume g r l k =>
    cases e : gens[g]? with
    | none => (simp only [step, e] at h; exact nomatch h)
    | some st =>
      cases st with
      | fresh c =>
        cases r with
        | throw x => simp only [step, e, Step.go.injEq] at h; obtain ⟨rfl, rfl⟩ := h; rfl
        | send v => cases v <;> (simp only [step, e, Step.go.injEq] at h; obtain ⟨rfl, rfl⟩ := h; first | rfl | exact bc_push (ne pre))
      | suspended kk lv' c p frames cl => simp only [step, e, Step.go.injEq] at h; obtain ⟨rfl, rfl⟩ := h; exact bc_app (ne pre) _ frames
      | running => simp only [step, e, Step.go.injEq] at h; obtain ⟨rfl, rfl⟩ := h; rfl
      | finished => simp only [step, e, Step.go.injEq] at h; obtain ⟨rfl, rfl⟩ := h; rfl
  | «yield» v g0 l kk =>
    simp only [step] at h
    cases e : splitAtGen (pre ++ [F]) with
    | none => rw [e] at h; exact nomatch h
    | some x =>
      obtain ⟨fs, ⟨n, k, c, q⟩, r⟩ := x
      rw [e] at h
      cases h
      obtain ⟨l2, z⟩ := split_is e
      rw [z]
      show bc c r = _
      refine (bc_app (F := .gen n k l2 c q) (r := r) (fun rn => ?_) code fs).symm
      subst rn
      have z2 : pre ++ [F] = fs ++ [.gen n k l2 c q] := z
      have z3 := (List.append_inj' z2 rfl).2
      cases z3
      cases hF
theorem frames_over {a : Type} {K K' : a → Sem Fin} {H H' : Value → Sem Fin} {gd : Bool → Bool} {lv : List Value → List Value} {B x y : List Frame} (D : Frames2 K K' H H' gd lv B x y) : ∃ l, l ≠ [] ∧ y = l ++ B := by
  induction D with
  | ret y h g l c p kept => exact ⟨[_], by simp, rfl⟩
  | gen n y l c p => exact ⟨[_], by simp, rfl⟩
  | cons f _ ih =>
    obtain ⟨l, _, rfl⟩ := ih
    exact ⟨f :: l, by simp, rfl⟩
end

/-! ### by logic -/
section
variable {p : Program} {w : World}
theorem wrap_calm {a : Type} {x : Sem a} {K K' : a → Sem Fin} {H' : Value → Sem Fin} {gd : Bool → Bool} {lv : List Value → List Value} {c : Code} {q : Pos} {B : List Frame} (hp : ∀ v, x ≠ .pure v) (hr : ∀ e, x ≠ .raise e)
    (h : Thread.calm ⟨x.wrap K deadEnd gd lv, c, q, B⟩ = true) : Thread.calm ⟨x.wrap K' H' gd lv, c, q, B⟩ = true := by
  cases x with
  | pure v => exact absurd rfl (hp v)
  | raise e => exact (hr e rfl).elim
  | _ => exact h
theorem inner_calm {a : Type} {K K' : a → Sem Fin} {H H' : Value → Sem Fin} {gd : Bool → Bool} {lv : List Value → List Value} {B x y : List Frame} (hB : splitAtGen B = none) (F : Frames2 K K' H H' gd lv B x y) {cur : Sem Fin} {c : Code} {q : Pos}
    (h : Thread.calm ⟨cur, c, q, x⟩ = true) : Thread.calm ⟨cur, c, q, y⟩ = true := by
  have e : Thread.calm ⟨cur, c, q, y⟩ = Thread.calm ⟨cur, c, q, x⟩ := by
    rcases F.split hB with ⟨u, v⟩ | ⟨fs, n, k, k', c, p, ra, rb, u, v, _⟩ <;> (cases cur <;> first | rfl | simp only [Thread.calm, Thread.yieldsInsideHandler, Thread.atCollectorCode, Thread.atExit, u, v])
  exact e.trans h
abbrev MD (p : Program) (w : World) : Model := model p w
/-- the frame below popped: the thread is at its end -/
theorem popped {den : Code → Sem Fin} {n : Nat} {s s' : Shared} {c c' : Code} {q q' : Pos} {v : Value} {F : Frame} {x : Sem Fin} (h : runNI den p w n s ⟨.pure (.done (.ret v)), c, q, []⟩ = .running s' ⟨x, c', q', [F]⟩) : False := by
  cases n with
  | zero =>
    unfold runNI at h
    cases h
  | succ n =>
    unfold runNI at h
    cases e : stepI den p w s ⟨.pure (.done (.ret v)), c, q, []⟩ with
    | halt o s2 => rw [e] at h; cases h
    | go s2 t2 =>
      exfalso
      unfold stepI at e
      split at e
      · cases e
      · have e2 : finish (.done (.ret v)) s = .go s2 t2 := e
        unfold finish at e2
        split at e2 <;> cases e2
theorem lift_run {q0 : Pos} {K' : Flow → Sem Fin} {H' : Value → Sem Fin} {s' : Shared} {c0 c' : Code} {q' : Pos} (hg : s'.gens = #[]) : ∀ (n : Nat) (sm sr : Shared) (tm tr ta : Thread), sr.forget = sm.forget → tr.forget = tm.forget →
    Rel2 doneF K' deadEnd H' id id [topFrame q0] tr ta → bc ta.code ta.stack = c0 → runNI (denote table) p w n sm tm = .running s' ⟨.pure (.done .next), c', q', [topFrame q0]⟩ → Cr (denote table) p w sr ta s' ⟨K' .next, c', q', [topFrame q0]⟩ ∧ c' = c0
  | 0, sm, sr, tm, tr, ta, es, et, R, hc0, h => by
    unfold runNI at h
    injection h with h1 h2
    subst h1
    subst h2
    obtain rfl : sr = sm := Shared.eq_of_forget_eq es hg
    obtain ⟨cur, code, pos, st⟩ := tr
    obtain ⟨cur2, code2, pos2, st2⟩ := ta
    simp only [Thread.forget, Thread.mk.injEq] at et
    obtain ⟨rfl, rfl, rfl, e4⟩ := et
    obtain ⟨r1, r2, R⟩ := R
    dsimp only at r1 r2 R
    subst r1
    subst r2
    rcases R with ⟨rfl, rfl, x, ex, ex2⟩ | ⟨_, F⟩
    · have hx : x = .pure .next := by
        cases x with
        | pure f =>
          have : (Sem.pure (Fin.done f) : Sem Fin) = .pure (.done .next) := ex.symm
          injection this with this
          injection this with this
          rw [this]
        | _ => exact absurd ex (by intro z; cases z)
      subst hx
      have : cur2 = K' .next := ex2
      rw [this]
      exact ⟨.refl _ _, hc0⟩
    · exfalso
      have l := F.longer.1
      have l2 : st.length = 1 := by
        have z := congrArg List.length e4
        unfold forgetAll at z
        rw [List.length_map, List.length_map] at z
        exact z
      rw [l2] at l
      exact absurd l (Nat.lt_irrefl _)
  | n + 1, sm, sr, tm, tr, ta, es, et, R, hc0, h => by
    unfold runNI at h
    cases e : stepI (denote table) p w sm tm with
    | halt o s2 => rw [e] at h; cases h
    | go s2 t2 =>
      rw [e] at h
      have loud : tm.loud = false := by
        cases hl : tm.loud with
        | false => rfl
        | true => rw [stepI_loud (denote table) p w hl] at e; cases e
      rw [stepI_quiet (denote table) p w loud] at e
      have ref : tm.refused = false := by
        cases hl : tm.refused with
        | false => rfl
        | true =>
          obtain ⟨what, z⟩ := stepK_refused (denote table) p w (s := sm) hl
          rw [z] at e
          cases e
      have calmM : tm.calm = true := by rw [Thread.calm_eq, loud, ref]; rfl
      have calmR : tr.calm = true := by rw [← Thread.calm_forget, et, Thread.calm_forget]; exact calmM
      have same : (step (denote table) p w sr tr).forget = (Step.go s2 t2).forget := by
        rw [← e, stepK_forget]
        exact step_same (denote table) p w es et
      cases er : step (denote table) p w sr tr with
      | halt o s3 => rw [er] at same; cases same
      | go s3 t3 =>
        rw [er] at same
        simp only [Step.forget, Step.go.injEq] at same
        obtain ⟨es2, et2⟩ := same
        obtain ⟨cur, code, pos, st⟩ := tr
        obtain ⟨cur2, code2, pos2, st2⟩ := ta
        obtain ⟨r1, r2, R⟩ := R
        dsimp only at r1 r2 R
        subst r1
        subst r2
        obtain ⟨rfl, rfl, x, rfl, rfl⟩ | ⟨rfl, F⟩ := R
        · by_cases hp : ∃ v, x = .pure v
          · exfalso
            obtain ⟨v, rfl⟩ := hp
            obtain ⟨cm, dm, pm, sm2⟩ := tm
            simp only [Thread.forget, Thread.mk.injEq] at et
            obtain ⟨e1, rfl, rfl, e4⟩ := et
            have ec : cm = .pure (.done v) := e1.symm
            subst ec
            obtain ⟨F, rfl, eF⟩ : ∃ F, sm2 = [F] ∧ F.forget = topFrame q0 := by
              cases sm2 with
              | nil => cases e4
              | cons F r =>
                cases r with
                | cons G r2 =>
                  have z := congrArg List.length e4
                  unfold forgetAll at z
                  rw [List.length_map, List.length_map] at z
                  have z2 : 1 = r2.length + 1 + 1 := z
                  omega
                | nil =>
                  have z : [(topFrame q0).forget] = [F.forget] := e4
                  exact ⟨F, rfl, (List.cons.inj z).1.symm⟩
            cases F with
            | gen => cases eF
            | ret k hh g l cc pp kk =>
              have eF2 : Frame.ret k hh g l cc pp [] = .ret topAfter none false [] (.builtin "claim.caller" {}) q0 [] := eF
              injection eF2 with k1
              subst k1
              have e5 : Step.go sm ⟨topAfter (.ok v), cc, pp, []⟩ = .go s2 t2 := e
              injection e5 with e6 e7
              subst e6
              subst e7
              exact popped (v := .none) h
          · have hp2 : ∀ v, x ≠ .pure v := fun v z => hp ⟨v, z⟩
            have hr : ∀ v, x ≠ .raise v := by
              rintro v rfl
              rcases sr with ⟨heap, gens, drawn, toks, os⟩
              simp only [Sem.wrap, step] at er
              cases er
            obtain ⟨t4, h4, R4⟩ := step_outer (B := [topFrame q0]) (K' := K') (H' := H') rfl hp2 er
            have hb := bc_step (pre := []) (F := topFrame q0) rfl h4 (fun _ => ⟨fun f z => ?_, fun e z => ?_⟩)
            · obtain ⟨r1, r2⟩ := lift_run hg n s2 s3 t2 t3 t4 es2 et2 R4 (hb.trans hc0) h
              exact ⟨.next (wrap_calm hp2 hr calmR) h4 r1, r2⟩
            · cases x with
              | pure v => exact hp2 v rfl
              | raise v => exact hr v rfl
              | _ => cases z
            · cases x with
              | pure v => exact hp2 v rfl
              | raise v => exact hr v rfl
              | _ => cases z
        · obtain ⟨t4, h4, R4⟩ := step_inner (B := [topFrame q0]) rfl F er
          obtain ⟨l, hl, el⟩ := frames_over F
          subst el
          have hb := bc_step (pre := l) (F := topFrame q0) rfl h4 (fun z => absurd z hl)
          obtain ⟨r1, r2⟩ := lift_run hg n s2 s3 t2 t3 t4 es2 et2 R4 (hb.trans hc0) h
          exact ⟨.next (inner_calm rfl F calmR) h4 r1, r2⟩
/-- a statement of the top, by logic -/
theorem stmt_run {A : Around} {env : Env} {st : Stmt} {rest : List Stmt} {c : Code} {q q0 : Pos} {s : Shared} {Q : Shared → Prop} (hA : (Ctx.of c [topFrame q0]).In A) (hg : ∀ s', Q s' → s'.gens = #[])
    (h : wpAny (model p w) A (exec st env) (fun f s' => f = .next ∧ Q s') (fun _ _ => False) s) :
    ∃ s' q', Q s' ∧ Cr (denote table) p w s (restOf (st :: rest) env c q [topFrame q0]) s' (restOf rest env c q' [topFrame q0]) := by
  have h1 := h (Ctx.of c [topFrame q0]) q hA
  let R : Result → Shared → Prop := fun r s' => r = .ok .next ∧ Q s'
  have h2 : Sem.wp (model p w) (Ctx.of c [topFrame q0]) ((exec st env).wrap doneF deadEnd id id) (Sem.finPost (model p w) (Ctx.of c [topFrame q0]) R) (fun e _ s' => R (.error e) s') q s := by
    rw [wp_wrapped]
    refine Sem.wp_mono _ _ _ (fun f p' s' hf => ?_) (fun e p' s' he => he.elim) _ _ h1
    obtain ⟨rfl, hq⟩ := hf
    rw [Sem.wp]
    exact ⟨rfl, hq⟩
  obtain ⟨n, r, s', c', q', hr, rfl, hq⟩ := wp_runN h2
  refine ⟨s', q', hq, ?_⟩
  have e : restOf (st :: rest) env c q [topFrame q0] = ⟨(exec st env).wrap (fun f => match f with | .next => (execs rest env).wrap doneF (leaveH env) id id | f => doneF f) (leaveH env) id id, c, q, [topFrame q0]⟩ := by
    unfold restOf
    rw [execs_cons_wrap]
    rfl
  rw [e]
  have hh : Cr (denote table) p w s ⟨(exec st env).wrap (fun f => match f with | .next => (execs rest env).wrap doneF (leaveH env) id id | f => doneF f) (leaveH env) id id, c, q, [topFrame q0]⟩ s' ⟨(execs rest env).wrap doneF (leaveH env) id id, c', q', [topFrame q0]⟩ ∧ c' = c :=
    lift_run (c0 := c) (K' := fun f => match f with | .next => (execs rest env).wrap doneF (leaveH env) id id | f => doneF f) (H' := leaveH env) (hg _ hq) n s s _ ⟨(exec st env).wrap doneF deadEnd id id, c, q, [topFrame q0]⟩ _ rfl rfl ⟨rfl, rfl, .inl ⟨rfl, rfl, _, rfl, rfl⟩⟩ rfl hr
  obtain ⟨r1, r2⟩ := hh
  rw [r2] at r1
  exact r1
end
end HdR
end
section
set_option Elab.async false
set_option linter.all false
set_option maxRecDepth 100000
/-! A dict of tuples of texts, made at a module's top: its state, to the token. -/
namespace HdB
open PySem PySem.W PySem.Calls PyProof.Rows HandSHeadRun L2
section
variable {w : World} {prog : Program} {s : Shared} {A : Around} {E : Value → Shared → Prop}
abbrev knd (prog : Program) (w : World) : HeapKind prog w (List Key) := tupleKind (mixKind prog w)
theorem nsSet_exact {a : Addr} {o : Obj} {es : Array DictEntry} {ep : Nat} {name : Str} {v : Value} {Q : Unit → Shared → Prop} (ho : s.heap.get? a = some o) (hd : o.data = .dict es ep) (hk : es.any (·.refKey) = false)
    (hq : Q () { s with heap := s.heap.update a (Obj.putName name (hashStr w name) (.str name s.toks) v), toks := s.toks + 1 }) : wpAny (model prog w) A (nsSet a name v) Q E s := fun C p _ => by
  simp only [nsSet, strHash, Sem.wp_bind', Sem.wp_cmd_ask, Sem.wp_pure', Sem.wp_cmd_mkText]
  rw [Sem.wp_loadPart_of (model prog w) C _ p { s with toks := s.toks + 1 } (o := o) _ ho]
  simp only [hd, aRefKeyMayBeTheName_eq, aRefKeyMayBeTheNameByArray, hk, Bool.and_false, Bool.false_eq_true, if_false, Sem.wp_cmd_updatePart]
  refine ⟨?_, hq⟩
  show (s.heap.get? a).isSome = true
  rw [ho]
  rfl
/-- the state behind d[k] = v, k new -/
def put1 (d : Addr) (e : DictEntry) (s : Shared) : Shared := { s with heap := s.heap.update d (Obj.mapDictKeys (·.push e)), toks := s.toks + 3 }
/-- what is there of the dict -/
structure At (prog : Program) (w : World) (s : Shared) (d : Addr) (xs : List (List Key × Addr × Value)) : Prop where
  ex : ∃ o es ep, s.heap.get? d = some o ∧ o.ExactDict ∧ o.data = .dict es ep ∧ es.toList = xs.map (entryOfKey (knd prog w))
  is_ : ∀ x ∈ xs, (knd prog w).is s.heap x.1 x.2.1
  nd : (xs.map (·.1)).Nodup
  sz : xs.length ≤ 15
theorem set_exact {d a : Addr} {k : List Key} {v : Value} {xs : List (List Key × Addr × Value)} {Q : Unit → Shared → Prop} (hu : A.units < cLine) (h : At prog w s d xs) (hk : (knd prog w).is s.heap k a) (h2 : k.length = 2) (hn : k ∉ xs.map (·.1))
    (hq : Q () (put1 d ⟨(knd prog w).hash k, .ref a, v⟩ s)) : wpAny (model prog w) A (dictSet d (.ref a) v) Q E s := by
  obtain ⟨o, es, ep, ho, hc, hd, he⟩ := h.ex
  have hdr : (knd prog w).draws k = 3 := by
    show k.length + 1 = 3
    rw [h2]
  have hsz : es.size = xs.length := by
    have := congrArg List.length he
    simpa using this
  have hz := h.sz
  have hline : es.size ≤ sizeLine := by
    rw [hsz, sizeLine_eq]
    omega
  unfold dictSet
  try (with_reducible refine wpAny_holding ?_)
  refine wpAny_bind ((knd prog w).pyHash hu hk ?_)
  unfold dictSetHashed
  try (with_reducible refine wpAny_holding ?_)
  rw [hdr]
  refine wpAny_bind (wpAny_dictFind_heap (s := { s with toks := s.toks + 3 }) hu hk ho hd he h.is_ h.nd ?_ ?_)
  · intro _
    exact wpAny_bind (wpAny_rule (wpAny_updateDictKeys (hz := hline) (s := { s with toks := s.toks + 3 }) ho hd hq))
  · intro j p hj
    exact absurd (List.mem_map.mpr ⟨_, List.mem_of_getElem? hj, rfl⟩) hn
theorem at_put {d a : Addr} {k : List Key} {v : Value} {xs : List (List Key × Addr × Value)} (h : At prog w s d xs) (hk : (knd prog w).is s.heap k a) (hn : k ∉ xs.map (·.1)) (hz : xs.length < 15) :
    At prog w (put1 d ⟨(knd prog w).hash k, .ref a, v⟩ s) d (xs ++ [(k, a, v)]) := by
  obtain ⟨o, es, ep, ho, hc, hd, he⟩ := h.ex
  have sb : Heap.SameBut d s.heap (s.heap.update d (Obj.mapDictKeys (·.push ⟨(knd prog w).hash k, .ref a, v⟩))) := Heap.SameBut.update ..
  refine ⟨⟨_, _, ep + 1, Heap.get?_update_self _ ho (Obj.isFreed_of_dict (Obj.data_mapDictKeys hd _)), hc.mapDictKeys _, Obj.data_mapDictKeys hd _, ?_⟩, ?_, ?_, ?_⟩
  · simp [he, entryOfKey]
  · intro x hx
    obtain hx | hx := List.mem_append.mp hx
    · exact (knd prog w).keeps (h.is_ x hx) ho hd sb
    · cases List.mem_singleton.mp hx
      exact (knd prog w).keeps hk ho hd sb
  · (rw [List.map_append, List.nodup_append])
    refine ⟨h.nd, by simp, ?_⟩
    intro x hx y hy z
    subst z
    cases List.mem_singleton.mp hy
    exact hn hx
  · rw [List.length_append]
    exact hz
/-- a tuple of two texts -/
def tupO (x y : Str) (t : Tok) : Obj := { cls := .type "tuple", data := .seq [.str x t, .str y (t + 1)].toArray }
theorem tup_walk {env : Env} {x y : Str} {j1 j2 k : Nat} {p1 p2 p3 : Pos} {Q : Value → Shared → Prop} (hs : starEach [.Constant (.str x) j1 p1, .Constant (.str y) j2 p2] env = [(false, eval (.Constant (.str x) j1 p1) env), (false, eval (.Constant (.str y) j2 p2) env)])
    (hq : Q (.ref s.heap.objs.size) { s with heap := s.heap.push (tupO x y s.toks), toks := s.toks + 2 }) : wpAny (model prog w) A (eval (.Tuple [.Constant (.str x) j1 p1, .Constant (.str y) j2 p2] k p3) env) Q E s := by
  refine wpAny_Tuple_spliced ?_
  rw [hs]
  show wpAny _ _ (spliced [(false, eval (.Constant (.str x) j1 p1) env), (false, eval (.Constant (.str y) j2 p2) env)]) _ _ s
  refine Calls.spliced_cons (Calls.Constant_str (Calls.spliced_cons (Calls.Constant_str (Calls.spliced_nil ⟨?_, hq⟩))))
  rw [sizeLine_eq]
  exact (by decide : 2 ≤ 16777216)
/-- a pair laid -/
def lay1 (x y : Str) (s : Shared) : Shared := { s with heap := s.heap.push (tupO x y s.toks), toks := s.toks + 3 }
def NP (pos : Pos) (k : Str × Str × Str) (e : Option Expr × Expr) : Prop := ∃ j1 j2 j3 m p1 p2 p3 p4, e = (some (.Tuple [.Constant (.str k.1) j1 p1, .Constant (.str k.2.1) j2 p2] m p3), .Constant (.str k.2.2) j3 p4)
theorem pair_walk {env : Env} {pos : Pos} {x y z : Str} {ks : List (Option Expr)} {vs : List Expr} {j1 j2 j3 m : Nat} {p1 p2 p3 p4 : Pos} {Q : List (Value × Value) → Shared → Prop}
    (hs : starEach [.Constant (.str x) j1 p1, .Constant (.str y) j2 p2] env = [(false, eval (.Constant (.str x) j1 p1) env), (false, eval (.Constant (.str y) j2 p2) env)])
    (a : Addr) (ha : s.heap.objs.size = a) (hq : wpAny (model prog w) A (evalPairs (pairTrees ks vs env pos)) (fun r s3 => Q ((.ref a, .str z (s.toks + 2)) :: r) s3) E (lay1 x y s)) :
    wpAny (model prog w) A (evalPairs (pairTrees (some (.Tuple [.Constant (.str x) j1 p1, .Constant (.str y) j2 p2] m p3) :: ks) (.Constant (.str z) j3 p4 :: vs) env pos)) Q E s :=
  pairTrees_cons_walk (tup_walk hs (Calls.Constant_str (by rw [ha]; exact hq)))
theorem size_lay1 (x y : Str) (s : Shared) : (lay1 x y s).heap.objs.size = s.heap.objs.size + 1 := Heap.size_push ..
theorem dict_walk {env : Env} {keys : List (Option Expr)} {values : List Expr} {pos : Pos} {Q : Value → Shared → Prop} (hall : keys.all (·.isSome) = true) (hl : keys.length = values.length) (h0 : keys ≠ []) (hlen : keys.length ≤ 15)
    (h : wpAny (model prog w) A (evalPairs (pairTrees keys values env pos)) (fun vs s1 => wpAny (model prog w) A (forIn vs PUnit.unit fun (x : Value × Value) (_ : PUnit) => (do dictSet s.heap.objs.size x.1 x.2; pure (ForInStep.yield PUnit.unit) : Sem (ForInStep PUnit))) (fun _ s2 => Q (.ref s.heap.objs.size) s2) E s1) E
      { s with heap := s.heap.push { cls := .type "dict", data := .dict #[] } }) : wpAny (model prog w) A (eval (.Dict keys values pos) env) Q E s := by
  have hn : _ = _ := pairTrees_length keys values env pos hall hl
  rw [arm_eval_Dict, zip_pairTrees keys values env pos hall hl, dictDisplay_pairs _ (fun z => h0 (List.length_eq_zero_iff.mp (by rw [← hn, z]; rfl))) (by omega)]
  refine wpAny_bind (wpAny_standAt ?_)
  refine wpAny_bind ?_
  unfold subDict
  refine wpAny_bind (wpAny_alloc (wpAny_bind (wpAny_holding ?_)))
  rw [if_pos (by omega)]
  refine wpAny_bind (wpAny_mono h (fun vs s1 h1 => ?_) fun _ _ e => e)
  refine wpAny_holding ?_
  exact wpAny_bind (wpAny_mono h1 (fun _ s2 h2 => wpAny_pure (wpAny_pure (wpAny_pure h2))) fun _ _ e => e)
theorem store_nil {d : Addr} {Q : PUnit → Shared → Prop} (h : Q PUnit.unit s) : wpAny (model prog w) A (forIn ([] : List (Value × Value)) PUnit.unit fun (x : Value × Value) (_ : PUnit) => (do dictSet d x.1 x.2; pure (ForInStep.yield PUnit.unit) : Sem (ForInStep PUnit))) Q E s := by
  rw [List.forIn_nil]
  exact wpAny_pure h
theorem store_cons {d : Addr} {k v : Value} {r : List (Value × Value)} {Q : PUnit → Shared → Prop}
    (h : wpAny (model prog w) A (dictSet d k v) (fun _ s1 => wpAny (model prog w) A (forIn r PUnit.unit fun (x : Value × Value) (_ : PUnit) => (do dictSet d x.1 x.2; pure (ForInStep.yield PUnit.unit) : Sem (ForInStep PUnit))) Q E s1) E s) :
    wpAny (model prog w) A (forIn ((k, v) :: r) PUnit.unit fun (x : Value × Value) (_ : PUnit) => (do dictSet d x.1 x.2; pure (ForInStep.yield PUnit.unit) : Sem (ForInStep PUnit))) Q E s := by
  rw [List.forIn_cons]
  exact wpAny_bind (wpAny_bind (wpAny_mono h (fun _ s1 h1 => wpAny_pure h1) fun _ _ e => e))
end
end HdB
end
section
set_option Elab.async false
set_option linter.all false
set_option maxRecDepth 100000
namespace HdC
open PySem PySem.W PySem.Calls PyProof.Rows HandSHeadRun L2 HdB HdR
abbrev P : Program := PySem.Challenge.pw_mobileair_k70_whole_words_in_order
abbrev body : List Stmt := behindTheImports P
def env : Env := { scope := P.main.scope, locals := mainNs, globals := mainNs, cells := [], code := .ref 13, frame := some 14 }
def q0 : Pos := ⟨0, 0, 0, 0⟩
abbrev cE : Code := .body body env
abbrev stN : Stmt := P.main.body.getD 20 (.Pass ⟨0, 0, 0, 0⟩)
def dE : Obj := { cls := .type "dict", data := .dict #[] }
def k2 (x y : Str) : List Key := [.inr x, .inr y]
def ent (p : Program) (w : World) (d i : Nat) (x y z : Str) (t : Tok) : DictEntry := ⟨(knd p w).hash (k2 x y), .ref (d + 1 + i), .str z t⟩
def s2N (s : Shared) : Shared := lay1 "idle" "setup" (lay1 "alerting" "connect" (lay1 "looking" "connect" (lay1 "looking" "alerting" (lay1 "starting" "proceeding" { s with heap := s.heap.push dE }))))
def s3N (p : Program) (w : World) (s : Shared) : Shared := put1 s.heap.objs.size (ent p w s.heap.objs.size 4 "idle" "setup" "ringing" (s.toks + 14)) (put1 s.heap.objs.size (ent p w s.heap.objs.size 3 "alerting" "connect" "active" (s.toks + 11))
  (put1 s.heap.objs.size (ent p w s.heap.objs.size 2 "looking" "connect" "active" (s.toks + 8)) (put1 s.heap.objs.size (ent p w s.heap.objs.size 1 "looking" "alerting" "alerting" (s.toks + 5)) (put1 s.heap.objs.size (ent p w s.heap.objs.size 0 "starting" "proceeding" "looking" (s.toks + 2)) (s2N s)))))
def endN (p : Program) (w : World) (s : Shared) : Shared := { s3N p w s with heap := (s3N p w s).heap.update mainNs (Obj.putName "NEXT" (hashStr w "NEXT") (.str "NEXT" (s3N p w s).toks) (.ref s.heap.objs.size)), toks := (s3N p w s).toks + 1 }
theorem is_tup {p : Program} {w : World} {h : Heap} {a : Addr} {x y : Str} {t : Tok} (e : h.get? a = some (tupO x y t)) : (knd p w).is h (k2 x y) a :=
  ⟨_, _, _, e, rfl, rfl, .cons (keyIs_str x t) (.cons (keyIs_str y (t + 1)) .nil)⟩
theorem is_put {p : Program} {w : World} {s : Shared} {d a : Addr} {e : DictEntry} {k : List Key} {xs : List (List Key × Addr × Value)} (h : At p w s d xs) (i : (knd p w).is s.heap k a) : (knd p w).is (put1 d e s).heap k a := by
  obtain ⟨o, es, ep, ho, hc, hd, he⟩ := h.ex
  exact (knd p w).keeps i ho hd (Heap.SameBut.update ..)
theorem get_push {h : Heap} {o : Obj} (f : o.isFreed = false) : (h.push o).get? h.objs.size = some o := Heap.get?_push_size _ f
theorem s2_at {p : Program} {w : World} {s : Shared} : At p w (s2N s) s.heap.objs.size [] ∧ (knd p w).is (s2N s).heap (k2 "starting" "proceeding") (s.heap.objs.size + 1 + 0) ∧ (knd p w).is (s2N s).heap (k2 "looking" "alerting") (s.heap.objs.size + 1 + 1) ∧
    (knd p w).is (s2N s).heap (k2 "looking" "connect") (s.heap.objs.size + 1 + 2) ∧ (knd p w).is (s2N s).heap (k2 "alerting" "connect") (s.heap.objs.size + 1 + 3) ∧ (knd p w).is (s2N s).heap (k2 "idle" "setup") (s.heap.objs.size + 1 + 4) := by
  have up : ∀ {h : Heap} {o u : Obj} {a : Addr}, h.get? a = some o → (h.push u).get? a = some o := fun e => Heap.get?_push_of_some _ e
  have z1 : (s.heap.push dE).objs.size = s.heap.objs.size + 1 := Heap.size_push ..
  have z2 : (lay1 "starting" "proceeding" { s with heap := s.heap.push dE }).heap.objs.size = s.heap.objs.size + 1 + 1 := by
    show ((s.heap.push dE).push _).objs.size = _
    rw [Heap.size_push, z1]
  have z3 : (lay1 "looking" "alerting" (lay1 "starting" "proceeding" { s with heap := s.heap.push dE })).heap.objs.size = s.heap.objs.size + 1 + 2 := by
    show (Heap.push _ _).objs.size = _
    rw [Heap.size_push, z2]
  have z4 : (lay1 "looking" "connect" (lay1 "looking" "alerting" (lay1 "starting" "proceeding" { s with heap := s.heap.push dE }))).heap.objs.size = s.heap.objs.size + 1 + 3 := by
    show (Heap.push _ _).objs.size = _
    rw [Heap.size_push, z3]
  have z5 : (lay1 "alerting" "connect" (lay1 "looking" "connect" (lay1 "looking" "alerting" (lay1 "starting" "proceeding" { s with heap := s.heap.push dE })))).heap.objs.size = s.heap.objs.size + 1 + 4 := by
    show (Heap.push _ _).objs.size = _
    rw [Heap.size_push, z4]
  refine ⟨⟨⟨dE, #[], 0, up (up (up (up (up (get_push rfl))))), ⟨rfl, rfl, rfl⟩, rfl, rfl⟩, fun x hx => (nomatch hx), List.nodup_nil, by decide⟩, ?_, ?_, ?_, ?_, ?_⟩
  · exact is_tup (up (up (up (up (by have e := get_push (h := s.heap.push dE) (o := tupO "starting" "proceeding" s.toks) rfl; rw [z1] at e; exact e)))))
  · exact is_tup (up (up (up (by have e := get_push (h := (lay1 "starting" "proceeding" { s with heap := s.heap.push dE }).heap) (o := tupO "looking" "alerting" (s.toks + 3)) rfl; rw [z2] at e; exact e))))
  · exact is_tup (up (up (by have e := get_push (h := (lay1 "looking" "alerting" (lay1 "starting" "proceeding" { s with heap := s.heap.push dE })).heap) (o := tupO "looking" "connect" (s.toks + 3 + 3)) rfl; rw [z3] at e; exact e)))
  · exact is_tup (up (by have e := get_push (h := (lay1 "looking" "connect" (lay1 "looking" "alerting" (lay1 "starting" "proceeding" { s with heap := s.heap.push dE }))).heap) (o := tupO "alerting" "connect" (s.toks + 3 + 3 + 3)) rfl; rw [z4] at e; exact e))
  · exact is_tup (by have e := get_push (h := (lay1 "alerting" "connect" (lay1 "looking" "connect" (lay1 "looking" "alerting" (lay1 "starting" "proceeding" { s with heap := s.heap.push dE })))).heap) (o := tupO "idle" "setup" (s.toks + 3 + 3 + 3 + 3)) rfl; rw [z5] at e; exact e)

theorem kinds : env.kindOf "NEXT" = some .local := by kernel_rfl
theorem store_top {p : Program} {w : World} {A : Around} {E : Value → Shared → Prop} {s : Shared} {v : Value} {Q : Unit → Shared → Prop} (h : wpAny (model p w) A (nsSet mainNs "NEXT" v) Q E s) : wpAny (model p w) A (storeName env "NEXT" v) Q E s := by
  have e : storeName env "NEXT" v = nsSet mainNs "NEXT" v := by
    unfold storeName
    rw [kinds]
    rfl
  rw [e]
  exact h
theorem k2_ne {a b c d : Str} (h : ¬ (a = c ∧ b = d)) : k2 a b ≠ k2 c d := fun e => by
  unfold k2 at e
  injection e with e1 e2
  injection e2 with e3 _
  exact h ⟨Sum.inr.inj e1, Sum.inr.inj e3⟩
set_option maxHeartbeats 6000000 in
theorem next_wp {p : Program} {w : World} {A : Around} {E : Value → Shared → Prop} {s : Shared} {Q : Flow → Shared → Prop} {st : Stmt} (hst : st = stN) (hu : A.units < cLine) (hb : 3 < s.heap.objs.size) (hm : ∃ o es ep, s.heap.get? mainNs = some o ∧ o.data = .dict es ep ∧ es.any (·.refKey) = false)
    (hq : Q .next (endN p w s)) : wpAny (model p w) A (exec st env) Q E s := by
  subst hst
  obtain ⟨A0, i0, i1, i2, i3, i4⟩ := s2_at (p := p) (w := w) (s := s)
  have n0' : ∀ {k : List Key}, k ∉ ([] : List (List Key)) := fun h => nomatch h
  have n0 : k2 "starting" "proceeding" ∉ ([] : List (List Key)) := fun h => nomatch h
  have n1 : k2 "looking" "alerting" ∉ [k2 "starting" "proceeding"] := List.not_mem_cons_of_ne_of_not_mem (k2_ne (by decide +kernel)) n0'
  have n2 : k2 "looking" "connect" ∉ [k2 "starting" "proceeding", k2 "looking" "alerting"] := List.not_mem_cons_of_ne_of_not_mem (k2_ne (by decide +kernel)) (List.not_mem_cons_of_ne_of_not_mem (k2_ne (by decide +kernel)) n0')
  have n3 : k2 "alerting" "connect" ∉ [k2 "starting" "proceeding", k2 "looking" "alerting", k2 "looking" "connect"] :=
    List.not_mem_cons_of_ne_of_not_mem (k2_ne (by decide +kernel)) (List.not_mem_cons_of_ne_of_not_mem (k2_ne (by decide +kernel)) (List.not_mem_cons_of_ne_of_not_mem (k2_ne (by decide +kernel)) n0'))
  have n4 : k2 "idle" "setup" ∉ [k2 "starting" "proceeding", k2 "looking" "alerting", k2 "looking" "connect", k2 "alerting" "connect"] :=
    List.not_mem_cons_of_ne_of_not_mem (k2_ne (by decide +kernel)) (List.not_mem_cons_of_ne_of_not_mem (k2_ne (by decide +kernel)) (List.not_mem_cons_of_ne_of_not_mem (k2_ne (by decide +kernel)) (List.not_mem_cons_of_ne_of_not_mem (k2_ne (by decide +kernel)) n0')))
  have A1 := at_put (v := .str "looking" (s.toks + 2)) A0 i0 n0 (by show 0 < 15; decide)
  have A2 := at_put (v := .str "alerting" (s.toks + 5)) A1 (is_put A0 i1) n1 (by show 1 < 15; decide)
  have A3 := at_put (v := .str "active" (s.toks + 8)) A2 (is_put A1 (is_put A0 i2)) n2 (by show 2 < 15; decide)
  have A4 := at_put (v := .str "active" (s.toks + 11)) A3 (is_put A2 (is_put A1 (is_put A0 i3))) n3 (by show 3 < 15; decide)
  have hm3 : ∃ o es ep, (s3N p w s).heap.get? mainNs = some o ∧ o.data = .dict es ep ∧ es.any (·.refKey) = false := by
    obtain ⟨o, es, ep, h1, h2, h3⟩ := hm
    refine ⟨o, es, ep, ?_, h2, h3⟩
    have ne : mainNs ≠ s.heap.objs.size := by
      show (3 : Nat) ≠ _
      omega
    have up : ∀ {h : Heap} {u : Obj}, h.get? mainNs = some o → (h.push u).get? mainNs = some o := fun e => Heap.get?_push_of_some _ e
    have un : ∀ {h : Heap} {f : Obj → Obj}, h.get? mainNs = some o → (h.update s.heap.objs.size f).get? mainNs = some o := fun e => (Heap.get?_update_ne _ _ _ _ ne).trans e
    exact un (un (un (un (un (up (up (up (up (up (up h1))))))))))
  refine wpAny_Assign_Name (x := "NEXT") ?_
  refine dict_walk ?_ ?_ ?_ ?_ ?_
  · rfl
  · rfl
  · intro z
    cases z
  · decide
  refine pair_walk (x := "starting") (y := "proceeding") (z := "looking") ?_ (s.heap.objs.size + 1 + 0) ?_ ?_
  · rfl
  · exact Heap.size_push ..
  refine pair_walk (x := "looking") (y := "alerting") (z := "alerting") ?_ (s.heap.objs.size + 1 + 1) ?_ ?_
  · rfl
  · rw [size_lay1]
    show (s.heap.push _).objs.size+1 = _
    rw [Heap.size_push]
  refine pair_walk (x := "looking") (y := "connect") (z := "active") ?_ (s.heap.objs.size + 1 + 2) ?_ ?_
  · rfl
  · rw [size_lay1, size_lay1]
    show (s.heap.push _).objs.size+1+1 = _
    rw [Heap.size_push]
  refine pair_walk (x := "alerting") (y := "connect") (z := "active") ?_ (s.heap.objs.size + 1 + 3) ?_ ?_
  · rfl
  · rw [size_lay1, size_lay1, size_lay1]
    show (s.heap.push _).objs.size+1+1+1 = _
    rw [Heap.size_push]
  refine pair_walk (x := "idle") (y := "setup") (z := "ringing") ?_ (s.heap.objs.size + 1 + 4) ?_ ?_
  · rfl
  · rw [size_lay1, size_lay1, size_lay1, size_lay1]
    show (s.heap.push _).objs.size+1+1+1+1 = _
    rw [Heap.size_push]
  refine pairTrees_nil_walk ?_
  refine store_cons (set_exact hu A0 i0 rfl n0 ?_)
  refine store_cons (set_exact hu A1 (is_put A0 i1) rfl n1 ?_)
  refine store_cons (set_exact hu A2 (is_put A1 (is_put A0 i2)) rfl n2 ?_)
  refine store_cons (set_exact hu A3 (is_put A2 (is_put A1 (is_put A0 i3))) rfl n3 ?_)
  refine store_cons (set_exact hu A4 (is_put A3 (is_put A2 (is_put A1 (is_put A0 i4)))) rfl n4 ?_)
  refine store_nil (store_top ?_)
  obtain ⟨o, es, ep, h1, h2, h3⟩ := hm3
  exact nsSet_exact h1 h2 h3 hq
end HdC
end
section
set_option Elab.async false
set_option linter.all false
set_option maxRecDepth 100000
/-! The top: pre-phase and statements 0 to 19 by the kernel, NEXT by logic, the rest by the kernel. -/
noncomputable section
namespace HdD
open PySem PySem.W PySem.Calls PyProof.Rows HandSHeadRun HdR HdC HdB
/-! ### a piece, by the kernel -/
def segF (st : SharedT → Thread → Option (SharedT × Thread)) (n0 : Nat) (ann : Option Value) (b : Nat) : Nat → SharedT → Thread → Option (Flow × SharedT × Code × Pos)
  | 0, _, _ => none
  | m + 1, s, t => match endAt b t with
    | some f => some (f, s, t.code, t.pos)
    | none => match stepOk n0 ann t with
      | false => none
      | true => match st s t with
        | some (s', t') => frS s' fun s' => segF st n0 ann b m s' t'
        | none => none
section
variable {tb : String → Option Builtin} {p : Program} {w : World} {n0 : Nat} {ann : Option Value} {b : Nat}
theorem segF_ok : ∀ {m : Nat} {s s' : SharedT} {t : Thread} {f : Flow} {c : Code} {q : Pos}, segF (stepT (denote tb) p w) n0 ann b m s t = some (f, s', c, q) → segRun tb p w n0 ann b m s.abs t = some (f, s'.abs, c, q)
  | 0, _, _, _, _, _, _, h => nomatch h
  | m + 1, s, s', t, f, c, q, h => by
    have h1 : (match endAt b t with
      | some f => some (f, s, t.code, t.pos)
      | none => match stepOk n0 ann t with
        | false => none
        | true => match stepT (denote tb) p w s t with
          | some (s', t') => frS s' fun s' => segF (stepT (denote tb) p w) n0 ann b m s' t'
          | none => none) = some (f, s', c, q) := h
    unfold segRun
    generalize endAt b t = z at h1 ⊢
    cases z with
    | some x =>
      cases h1
      rfl
    | none =>
      generalize stepOk n0 ann t = z at h1 ⊢
      cases z with
      | false => cases h1
      | true =>
        generalize hs : stepT (denote tb) p w s t = z at h1
        cases z with
        | none => cases h1
        | some r =>
          obtain ⟨s2, t2⟩ := r
          have h3 : (frS s2 fun s' => segF (stepT (denote tb) p w) n0 ann b m s' t2) = some (f, s', c, q) := h1
          rw [frS_eq] at h3
          have h4 := segF_ok h3
          show (match step (denote tb) p w s.abs t with
            | .go s' t' => segRun tb p w n0 ann b m s' t'
            | .halt _ _ => none) = some (f, s'.abs, c, q)
          rw [stepT_spec hs]
          exact h4
variable {a : Type} {B : List Frame} {K' : a → Sem Fin} {H' : Value → Sem Fin} {gd : Bool → Bool} {lv : List Value → List Value} {res : a → Flow}
theorem seg_cr (hB : splitAtGen B = none) : ∀ (n : Nat) (s : Shared) (t u : Thread) (f : Flow) (s' : Shared) (c' : Code) (p' : Pos), Rel2 (fun x => .pure (.done (res x))) K' deadEnd H' gd lv B t u →
    segRun tb p w n0 ann B.length n s t = some (f, s', c', p') → ∃ x, res x = f ∧ Cr (denote tb) p w s u s' ⟨K' x, c', p', B⟩ ∧ Kp n0 ann s s'
  | 0, _, _, _, _, _, _, _, _, h => by
    unfold segRun at h
    cases h
  | n + 1, s, ⟨cur, code, pos, st⟩, ⟨cur2, code2, pos2, st2⟩, f, s', c', p', R, h => by
    obtain ⟨r1, r2, R⟩ := R
    dsimp only at r1 r2 R
    subst r1
    subst r2
    unfold segRun at h
    cases e1 : endAt B.length ⟨cur, code, pos, st⟩ with
    | some g =>
      rw [e1] at h
      injection h with h
      injection h with h1 h
      injection h with h2 h
      injection h with h3 h4
      have h3 : code = c' := h3
      have h4 : pos = p' := h4
      subst h1
      subst h2
      subst h3
      subst h4
      obtain ⟨rfl, rfl, x, rfl, rfl⟩ | ⟨rfl, F⟩ := R
      · obtain ⟨y, rfl, ey⟩ : ∃ y, x = .pure y ∧ res y = g := by
          cases x with
          | pure y =>
            unfold endAt at e1
            simp only [Sem.wrap, beq_self_eq_true, Option.some.injEq] at e1
            exact ⟨y, rfl, e1⟩
          | _ =>
            unfold endAt at e1
            simp [Sem.wrap] at e1
        exact ⟨y, ey, .refl _ _, .refl _ _ _⟩
      · have l := F.longer.1
        have z : ((st.length == B.length) = false) := beq_eq_false_iff_ne.mpr (Nat.ne_of_gt l)
        unfold endAt at e1
        dsimp only at e1
        rw [z] at e1
        cases e1
    | none =>
      rw [e1] at h
      cases e2 : stepOk n0 ann ⟨cur, code, pos, st⟩ with
      | false =>
        rw [e2] at h
        cases h
      | true =>
        rw [e2] at h
        cases e3 : step (denote tb) p w s ⟨cur, code, pos, st⟩ with
        | halt o s2 =>
          rw [e3] at h
          cases h
        | go s2 t2 =>
          rw [e3] at h
          have main : stepOk n0 ann ⟨cur2, code, pos, st2⟩ = true ∧ ∃ u2, step (denote tb) p w s ⟨cur2, code, pos, st2⟩ = .go s2 u2 ∧ Rel2 (fun x => .pure (.done (res x))) K' deadEnd H' gd lv B t2 u2 := by
            obtain ⟨rfl, rfl, x, rfl, rfl⟩ | ⟨rfl, F⟩ := R
            · have np : ∀ y, x ≠ .pure y := fun y z => by
                subst z
                unfold endAt at e1
                simp [Sem.wrap] at e1
              have nr : ∀ y, x ≠ .raise y := fun y z => by
                subst z
                rcases s with ⟨heap, gens, drawn, toks, os⟩
                simp only [Sem.wrap, step] at e3
                cases e3
              exact ⟨(okOuter (K' := K') (H' := H') np nr e2).1, step_outer hB np e3⟩
            · exact ⟨(okInner hB F e2).1, step_inner hB F e3⟩
          obtain ⟨k1, u2, k2, R2⟩ := main
          obtain ⟨x, ex, c1, c2⟩ := seg_cr hB n s2 t2 u2 f s' c' p' R2 h
          obtain ⟨hc, kk⟩ := kp_step k1 k2
          exact ⟨x, ex, .next hc k2 c1, kk.trans c2⟩
theorem pieces_cr {env : Env} {q0 : Pos} {n : Nat} {s s' : Shared} {l rest : List Stmt} {c : Code} {pos p' : Pos} (h : segRun tb p w n0 ann 1 n s (piecesOf l env c pos [topFrame q0]) = some (.next, s', c, p')) :
    Cr (denote tb) p w s (restOf (l ++ rest) env c pos [topFrame q0]) s' (restOf rest env c p' [topFrame q0]) ∧ Kp n0 ann s s' := by
  obtain ⟨x, rfl, h1, h2⟩ := seg_cr (res := id) (K' := fun f => match f with | .next => (execs rest env).wrap doneF (leaveH env) id id | f => doneF f) (H' := leaveH env) (B := [topFrame q0]) rfl n s (piecesOf l env c pos [topFrame q0])
    ⟨(execs l env).wrap (fun f => match f with | .next => (execs rest env).wrap doneF (leaveH env) id id | f => doneF f) (leaveH env) id id, c, pos, [topFrame q0]⟩ .next s' c p' ⟨rfl, rfl, .inl ⟨rfl, rfl, _, rfl, rfl⟩⟩ h
  refine ⟨?_, h2⟩
  unfold restOf
  rw [execs_app_wrap]
  exact h1
/-- a code's start, when it does nothing -/
theorem start_nothing {body : List Stmt} {env : Env} {c : Code} {pos : Pos} {B : List Frame} (h : blockStart body env = .pure ()) : (⟨denote tb (.body body env), c, pos, B⟩ : Thread) = restOf body env c pos B := by
  rw [body_wrap, h]
  rfl
end
/-! ### NEXT's state on the tree -/
def pushT (o : Obj) (s : SharedT) (k : SharedT → Option SharedT) : Option SharedT := match ((s.tree.ins s.n o).get s.n).isSome with
  | true => k ⟨s.tree.ins s.n o, s.n + 1, s.life, s.gens, s.drawn, s.toks, s.os⟩
  | false => none
def setT (a : Addr) (f : Obj → Obj) (m : Nat) (s : SharedT) (k : SharedT → Option SharedT) : Option SharedT := match (s.tree.get a).isSome with
  | true => k ⟨s.tree.set a f, s.n, s.life, s.gens, s.drawn, s.toks + m, s.os⟩
  | false => none
theorem pushT_ok {o : Obj} {s r : SharedT} {k : SharedT → Option SharedT} (h : pushT o s k = some r) : ∃ s', k s' = some r ∧ s'.abs = { s.abs with heap := s.abs.heap.push o } := by
  unfold pushT at h
  generalize e : ((s.tree.ins s.n o).get s.n).isSome = z at h
  cases z with
  | false => cases h
  | true =>
    refine ⟨_, h, ?_⟩
    show (⟨absHeap (s.tree.ins s.n o) (s.n + 1) s.life, s.gens, s.drawn, s.toks, s.os⟩ : Shared) = _
    rw [absHeap_ins e]
    rfl
theorem setT_ok {a : Addr} {f : Obj → Obj} {m : Nat} {s r : SharedT} {k : SharedT → Option SharedT} (h : setT a f m s k = some r) : ∃ s', k s' = some r ∧ s'.abs = { s.abs with heap := s.abs.heap.update a f, toks := s.toks + m } := by
  unfold setT at h
  cases e : s.tree.get a with
  | none =>
    rw [e] at h
    cases h
  | some o =>
    rw [e] at h
    refine ⟨_, h, ?_⟩
    show (⟨absHeap (s.tree.set a f) s.n s.life, s.gens, s.drawn, s.toks + m, s.os⟩ : Shared) = _
    rw [absHeap_set e]
    rfl
end HdD
end
end
section
set_option Elab.async false
set_option linter.all false
set_option maxRecDepth 100000
/-! NEXT's state on the tree; what it keeps. -/
noncomputable section
namespace HdD
open PySem PySem.W PySem.Calls PyProof.Rows HandSHeadRun HdR HdC HdB
def lay1T (x y : Str) (s : SharedT) (k : SharedT → Option SharedT) : Option SharedT := pushT (tupO x y s.toks) s fun s => k ⟨s.tree, s.n, s.life, s.gens, s.drawn, s.toks + 3, s.os⟩
theorem lay1T_ok {x y : Str} {s r : SharedT} {k : SharedT → Option SharedT} (h : lay1T x y s k = some r) : ∃ s', k s' = some r ∧ s'.abs = lay1 x y s.abs := by
  unfold lay1T at h
  obtain ⟨s', h1, h2⟩ := pushT_ok h
  refine ⟨_, h1, ?_⟩
  have e1 : s'.abs.gens = s.abs.gens := by rw [h2]
  have e2 : s'.abs.drawn = s.abs.drawn := by rw [h2]
  have e3 : s'.abs.toks = s.abs.toks := by rw [h2]
  have e4 : s'.abs.os = s.abs.os := by rw [h2]
  have e5 : s'.abs.heap = s.abs.heap.push (tupO x y s.abs.toks) := by rw [h2]; rfl
  show (⟨s'.abs.heap, s'.abs.gens, s'.abs.drawn, s'.abs.toks + 3, s'.abs.os⟩ : Shared) = ⟨s.abs.heap.push (tupO x y s.abs.toks), s.abs.gens, s.abs.drawn, s.abs.toks + 3, s.abs.os⟩
  rw [e1, e2, e3, e4, e5]
def put1T (d : Addr) (e : DictEntry) (s : SharedT) (k : SharedT → Option SharedT) : Option SharedT := setT d (Obj.mapDictKeys (·.push e)) 3 s k
theorem put1T_ok {d : Addr} {e : DictEntry} {s r : SharedT} {k : SharedT → Option SharedT} (h : put1T d e s k = some r) : ∃ s', k s' = some r ∧ s'.abs = put1 d e s.abs := setT_ok h
def endT (p : Program) (w : World) (s : SharedT) : Option SharedT :=
  pushT dE s fun s1 => lay1T "starting" "proceeding" s1 fun s2 => lay1T "looking" "alerting" s2 fun s3 => lay1T "looking" "connect" s3 fun s4 => lay1T "alerting" "connect" s4 fun s5 => lay1T "idle" "setup" s5 fun s6 =>
  put1T s.n (ent p w s.n 0 "starting" "proceeding" "looking" (s.toks + 2)) s6 fun s7 => put1T s.n (ent p w s.n 1 "looking" "alerting" "alerting" (s.toks + 5)) s7 fun s8 => put1T s.n (ent p w s.n 2 "looking" "connect" "active" (s.toks + 8)) s8 fun s9 =>
  put1T s.n (ent p w s.n 3 "alerting" "connect" "active" (s.toks + 11)) s9 fun s10 => put1T s.n (ent p w s.n 4 "idle" "setup" "ringing" (s.toks + 14)) s10 fun s11 =>
  setT mainNs (Obj.putName "NEXT" (hashStr w "NEXT") (.str "NEXT" s11.toks) (.ref s.n)) 1 s11 some
theorem endN_is {p : Program} {w : World} {s t : Shared} {d : Addr} (h1 : t = s3N p w s) (h2 : s.heap.objs.size = d) : endN p w s = { t with heap := t.heap.update mainNs (Obj.putName "NEXT" (hashStr w "NEXT") (.str "NEXT" t.toks) (.ref d)), toks := t.toks + 1 } := by
  subst h1
  subst h2
  rfl
theorem endT_ok {p : Program} {w : World} {s r : SharedT} (h : endT p w s = some r) : r.abs = endN p w s.abs := by
  have en : s.abs.heap.objs.size = s.n := absHeap_size ..
  unfold endT at h
  obtain ⟨s1, h, e1⟩ := pushT_ok h
  obtain ⟨s2, h, e2⟩ := lay1T_ok h
  obtain ⟨s3, h, e3⟩ := lay1T_ok h
  obtain ⟨s4, h, e4⟩ := lay1T_ok h
  obtain ⟨s5, h, e5⟩ := lay1T_ok h
  obtain ⟨s6, h, e6⟩ := lay1T_ok h
  have z2 : s6.abs = s2N s.abs := by
    rw [e6, e5, e4, e3, e2, e1]
    rfl
  obtain ⟨s7, h, e7⟩ := put1T_ok h
  obtain ⟨s8, h, e8⟩ := put1T_ok h
  obtain ⟨s9, h, e9⟩ := put1T_ok h
  obtain ⟨s10, h, e10⟩ := put1T_ok h
  obtain ⟨s11, h, e11⟩ := put1T_ok h
  have z3 : s11.abs = s3N p w s.abs := by
    rw [e11, e10, e9, e8, e7, z2]
    unfold s3N
    rw [en]
    rfl
  obtain ⟨s12, h, e12⟩ := setT_ok h
  have h : s12 = r := Option.some.inj h
  subst h
  exact e12.trans (endN_is z3 en).symm
theorem end_kp {p : Program} {w : World} {n0 : Nat} {ann : Option Value} {s : Shared} (h : n0 ≤ s.heap.objs.size) : Kp n0 ann s (endN p w s) := by
  refine ⟨?_, fun b o h1 h2 h3 h4 hb => ?_⟩
  · kernel_rfl
  have up : ∀ {h : Heap} {u : Obj}, h.get? b = some o → (h.push u).get? b = some o := fun e => Heap.get?_push_of_some _ e
  have nd : b ≠ s.heap.objs.size := Nat.ne_of_lt (Nat.lt_of_lt_of_le h1 h)
  have un : ∀ {h : Heap} {f : Obj → Obj}, h.get? b = some o → (h.update s.heap.objs.size f).get? b = some o := fun e => (Heap.get?_update_ne _ _ _ _ nd).trans e
  refine (Heap.get?_update_ne _ _ _ _ h2).trans ?_
  exact un (un (un (un (un (up (up (up (up (up (up hb))))))))))
end HdD
end
end
section
set_option Elab.async false
set_option linter.all false
set_option maxRecDepth 100000
set_option maxHeartbeats 0
/-! The kernel's equations: the top up to NEXT. -/
noncomputable section
namespace HdD
open PySem PySem.W PySem.Calls PyProof.Rows HandSHeadRun HdR HdC HdB
def execsQ : List Stmt → Env → Sem Flow := PySem.W.Fast.tw12563942051412417395
theorem execsQ_eq : @PySem.execs = execsQ := PySem.W.Fast.te12563942051412417395
def posA : Pos := ⟨271, 0, 271, 8⟩
def preX (w : World) (os : OsState) : Option (SharedT × Thread) := match putAll (boot_heap w.params).objs.toList .nil 0 with
  | some r => goS (stepQ (denQ tabQ) P w) 11 (bootAnn w) 12 (bootT w os r) (topStub P)
  | none => none
theorem pre_thread (w : World) (os : OsState) : (preX w os).map (·.2) = some ⟨denQ tabQ cE, cE, q0, [topFrame q0]⟩ := by
  kernel_rfl
def segX (w : World) (os : OsState) : Option (Flow × SharedT × Code × Pos) := match preX w os with
  | some r => segF (stepQ (denQ tabQ) P w) 11 (bootAnn w) 1 4000 r.1 ⟨(execsQ (body.take 20) env).wrap doneF deadEnd id id, cE, q0, [topFrame q0]⟩
  | none => none
def fitA (s : SharedT) : Bool := Nat.ble 11 s.n && (s.gens.size == 0 && (match getT s mainNs with
  | some o => (match o.data with
    | .dict es _ => !es.any (·.refKey)
    | _ => false)
  | none => false))
theorem seg_ends (w : World) (os : OsState) : (segX w os).map (fun r => (r.1, r.2.2.1, r.2.2.2, fitA r.2.1)) = some (.next, cE, posA, true) := by
  kernel_rfl
theorem boot_size (w : World) : (boot_heap w.params).objs.size = 11 := by
  kernel_rfl
theorem boot_fit (w : World) (os : OsState) : (match putAll (boot_heap w.params).objs.toList .nil 0 with
  | some r => true
  | none => false) = true := by
  kernel_rfl
end HdD
end
end
section
set_option Elab.async false
set_option linter.all false
set_option maxRecDepth 100000
/-! The top, from the boot to its end. -/
noncomputable section
namespace HdD
open PySem PySem.W PySem.Calls PyProof.Rows HandSHeadRun HdR HdC HdB
theorem sched_more {den : Code → Sem Fin} {p : Program} {w : World} {k : Nat} : ∀ {m : Nat} {c c1 : Config}, schedN den p w m c = .running c1 → schedN den p w (m + k) c = schedN den p w k c1
  | 0, c, c1, h => by
    have e : c = c1 := by
      have z : SRun.running c = .running c1 := h
      injection z
    rw [e, Nat.zero_add]
  | m + 1, c, c1, h => by
    rw [show m + 1 + k = m + k + 1 by omega]
    have h1 : (match sstep den p w c with
      | .go c' => schedN den p w m c'
      | .halt o s => .halted o s) = SRun.running c1 := h
    show (match sstep den p w c with
      | .go c' => schedN den p w (m + k) c'
      | .halt o s => .halted o s) = _
    generalize sstep den p w c = z at h1 ⊢
    cases z with
    | go c2 => exact sched_more h1
    | halt o s => cases h1
/-- behind a top: what runs it, what stays -/
structure Thr (p : Program) (w : World) (n0 : Nat) (ann : Option Value) (s : Shared) (t : Thread) (s1 : Shared) : Prop where
  run : ∃ m t1, schedN (denote table) p w m (.single s t) = .running (.single s1 t1) ∧ through t1 = true
  life : s1.heap.life = s.heap.life
  kp : Kp n0 ann s s1
theorem Thr.of_run {p : Program} {w : World} {n0 : Nat} {ann : Option Value} {n : Nat} {s s1 : Shared} {t : Thread} (hz : s.asleep) (h : topRun table p w n0 ann n s t = some s1) : Thr p w n0 ann s t s1 := by
  obtain ⟨a, b, c, d⟩ := topRun_spec n s t s1 hz h
  exact ⟨a, b, c, d⟩
theorem Thr.onto {p : Program} {w : World} {n0 : Nat} {ann : Option Value} {s s1 s2 : Shared} {t t1 : Thread} (hz : s.asleep) (a : Cr (denote table) p w s t s1 t1) (k : Kp n0 ann s s1) (h : s1.asleep → Thr p w n0 ann s1 t1 s2) : Thr p w n0 ann s t s2 := by
  have hl := a.life
  have g := h (Shared.asleep_of_life hl hz)
  obtain ⟨m1, e1⟩ := a.sched hz
  obtain ⟨m2, t2, e2, e3⟩ := g.run
  exact ⟨⟨m1 + m2, t2, (sched_more e1).trans e2, e3⟩, g.life.trans hl, k.trans g.kp⟩
def AN : Around := { depth := 1000, units := 1000 }
theorem ctx_in (b : List Stmt) (e : Env) : (Ctx.of (.body b e) [topFrame q0]).In AN := by
  refine ⟨rfl, ?_, fun l h => ?_, fun g h => ?_, ?_⟩
  · exact Nat.le_of_ble_eq_true (by kernel_rfl)
  · cases h
  · cases h
  · exact Nat.le_of_ble_eq_true (by kernel_rfl)
theorem end_gens (p : Program) (w : World) (s : Shared) : (endN p w s).gens = s.gens := by
  kernel_rfl
theorem one_cr {p : Program} {w : World} {x r : SharedT} {st : Stmt} {ev : Env} {b rest : List Stmt} {q : Pos} (e : endT p w x = some r) (hg : x.abs.gens = #[])
    (wp : wpAny (model p w) AN (exec st ev) (fun f s' => f = .next ∧ s' = endN p w x.abs) (fun _ _ => False) x.abs) :
    ∃ q', Cr (denote table) p w x.abs (restOf (st :: rest) ev (.body b ev) q [topFrame q0]) r.abs (restOf rest ev (.body b ev) q' [topFrame q0]) := by
  obtain ⟨s', q', h1, h2⟩ := stmt_run (Q := fun s' => s' = endN p w x.abs) (c := .body b ev) (q := q) (q0 := q0) (rest := rest) (ctx_in b ev) (fun s' z => by rw [z, end_gens, hg]) wp
  rw [h1, ← endT_ok e] at h2
  exact ⟨q', h2⟩
theorem fit_of {x : SharedT} (f : fitA x = true) : 11 ≤ x.abs.heap.objs.size ∧ x.abs.gens = #[] ∧ ∃ o es ep, x.abs.heap.get? mainNs = some o ∧ o.data = .dict es ep ∧ es.any (·.refKey) = false := by
  obtain ⟨f1, f2⟩ := Bool.and_eq_true_iff.mp f
  obtain ⟨f2, f3⟩ := Bool.and_eq_true_iff.mp f2
  have sz : x.abs.heap.objs.size = x.n := absHeap_size ..
  refine ⟨sz ▸ Nat.le_of_ble_eq_true f1, Array.eq_empty_of_size_eq_zero (beq_iff_eq.mp f2), ?_⟩
  rw [getT_eq] at f3
  generalize x.abs.heap.get? mainNs = z at f3 ⊢
  cases z with
  | none => cases f3
  | some o =>
    have f4 : (match o.data with
      | .dict es _ => !es.any (·.refKey)
      | _ => false) = true := f3
    cases hd : o.data with
    | dict es ep =>
      rw [hd] at f4
      refine ⟨o, es, ep, rfl, hd, ?_⟩
      simpa using f4
    | _ =>
      rw [hd] at f4
      cases f4
theorem an_units : AN.units < cLine := by
  unfold AN
  decide
theorem next_any {p : Program} {w : World} {s : Shared} {st : Stmt} (hst : st = stN) (le : 11 ≤ s.heap.objs.size) (hm : ∃ o es ep, s.heap.get? mainNs = some o ∧ o.data = .dict es ep ∧ es.any (·.refKey) = false) :
    wpAny (model p w) AN (exec st env) (fun f s' => f = .next ∧ s' = endN p w s) (fun _ _ => False) s :=
  next_wp hst an_units (Nat.lt_of_lt_of_le (by decide) le) hm (And.intro rfl rfl)
/-- NEXT's statement -/
theorem next_cr {p : Program} {w : World} {x r : SharedT} {st : Stmt} {rest : List Stmt} {b : List Stmt} {q : Pos} (hst : st = stN) (e : endT p w x = some r) (f : fitA x = true) :
    ∃ q', Cr (denote table) p w x.abs (restOf (st :: rest) env (.body b env) q [topFrame q0]) r.abs (restOf rest env (.body b env) q' [topFrame q0]) := one_cr e (fit_of f).2.1 (next_any hst (fit_of f).1 (fit_of f).2.2)
/-- the rest of the top, to its end -/
def endX (w : World) (os : OsState) (q : Pos) : Option SharedT := match segX w os with
  | some r => (endT P w r.2.1).bind fun s => goF (stepQ (denQ tabQ) P w) 11 (bootAnn w) 2000 s ⟨(execsQ (body.drop 21) env).wrap doneF (leaveH env) id id, cE, q, [topFrame q0]⟩
  | none => none
theorem body_split : body.take 20 ++ (stN :: body.drop 21) = body := by
  kernel_rfl
theorem start_no : blockStart body env = .pure () := by
  kernel_rfl
theorem goQ_ok {p : Program} {w : World} {n0 : Nat} {ann : Option Value} {m : Nat} {s s' : SharedT} {t t' : Thread} (h : goS (stepQ (denQ tabQ) p w) n0 ann m s t = some (s', t')) : Cr (denote table) p w s.abs t s'.abs t' ∧ Kp n0 ann s.abs s'.abs := by
  rw [← stepQ_eq, ← denQ_eq, ← tabQ_eq] at h
  rw [table_eq_tree]
  exact goS_ok h
theorem segQ_ok {p : Program} {w : World} {n0 : Nat} {ann : Option Value} {m : Nat} {s s' : SharedT} {l rest : List Stmt} {ev : Env} {c : Code} {pos p' : Pos}
    (h : segF (stepQ (denQ tabQ) p w) n0 ann 1 m s ⟨(execsQ l ev).wrap doneF deadEnd id id, c, pos, [topFrame q0]⟩ = some (.next, s', c, p')) :
    Cr (denote table) p w s.abs (restOf (l ++ rest) ev c pos [topFrame q0]) s'.abs (restOf rest ev c p' [topFrame q0]) ∧ Kp n0 ann s.abs s'.abs := by
  rw [← stepQ_eq, ← denQ_eq, ← tabQ_eq, ← execsQ_eq] at h
  rw [table_eq_tree]
  exact pieces_cr (segF_ok h)
theorem endQ_ok {p : Program} {w : World} {n0 : Nat} {ann : Option Value} {m : Nat} {s s' : SharedT} {l : List Stmt} {ev : Env} {c : Code} {q : Pos} (hz : s.abs.asleep)
    (h : goF (stepQ (denQ tabQ) p w) n0 ann m s ⟨(execsQ l ev).wrap doneF (leaveH ev) id id, c, q, [topFrame q0]⟩ = some s') : Thr p w n0 ann s.abs (restOf l ev c q [topFrame q0]) s'.abs := by
  rw [← stepQ_eq, ← denQ_eq, ← tabQ_eq, ← execsQ_eq] at h
  have h2 := goF_ok h
  rw [← table_eq_tree] at h2
  exact Thr.of_run hz h2
theorem startQ {b : List Stmt} {ev : Env} {q : Pos} {B : List Frame} (h : blockStart b ev = .pure ()) : (⟨denQ tabQ (.body b ev), .body b ev, q, B⟩ : Thread) = restOf b ev (.body b ev) q B := by
  rw [← denQ_eq, ← tabQ_eq]
  exact start_nothing h
theorem boot_abs {w : World} {os : OsState} {r : PySem.W.BT × Nat} (e : putAll (boot_heap w.params).objs.toList .nil 0 = some r) : (bootT w os r).abs = ⟨boot_heap w.params, #[], boot_drawn, boot_toks, os⟩ := by
  obtain ⟨t, n⟩ := r
  show Shared.mk (absHeap t n (boot_heap w.params).life) #[] boot_drawn boot_toks os = _
  rw [putAll_heap e]
theorem join {p : Program} {w : World} {n0 : Nat} {ann : Option Value} {s0 s1 s2 s3 s4 : Shared} {t0 t1 t2 t3 : Thread} (hz : s0.asleep) (c1 : Cr (denote table) p w s0 t0 s1 t1 ∧ Kp n0 ann s0 s1) (c2 : Cr (denote table) p w s1 t1 s2 t2 ∧ Kp n0 ann s1 s2)
    (c3 : Cr (denote table) p w s2 t2 s3 t3 ∧ Kp n0 ann s2 s3) (h : s3.asleep → Thr p w n0 ann s3 t3 s4) : Thr p w n0 ann s0 t0 s4 :=
  Thr.onto hz c1.1 c1.2 fun h1 => Thr.onto h1 c2.1 c2.2 fun h2 => Thr.onto h2 c3.1 c3.2 h
theorem top_all {w : World} {os : OsState} {α : Type} {F : SharedT → α} {v : α} (h : ∀ q, (endX w os q).map F = some v) (hz : (⟨boot_heap w.params, #[], boot_drawn, boot_toks, os⟩ : Shared).asleep) :
    ∃ s1 : SharedT, F s1 = v ∧ Thr P w 11 (bootAnn w) ⟨boot_heap w.params, #[], boot_drawn, boot_toks, os⟩ (topStub P) s1.abs := by
  have e1 := pre_thread w os
  have e2 := seg_ends w os
  unfold endX at h
  unfold segX at h e2
  unfold preX at h e1 e2
  cases eb : putAll (boot_heap w.params).objs.toList .nil 0 with
  | none =>
    rw [eb] at e1
    cases e1
  | some r =>
    rw [eb] at e1 e2 h
    rw [← boot_abs (os := os) eb] at hz ⊢
    dsimp only at e1 e2 h
    cases ep : goS (stepQ (denQ tabQ) P w) 11 (bootAnn w) 12 (bootT w os r) (topStub P) with
    | none =>
      rw [ep] at e1
      cases e1
    | some x =>
      obtain ⟨s, t⟩ := x
      rw [ep] at e1 e2 h
      dsimp only at e2 h
      have et : t = ⟨denQ tabQ cE, cE, q0, [topFrame q0]⟩ := Option.some.inj e1
      cases es : segF (stepQ (denQ tabQ) P w) 11 (bootAnn w) 1 4000 s ⟨(execsQ (body.take 20) env).wrap doneF deadEnd id id, cE, q0, [topFrame q0]⟩ with
      | none =>
        rw [es] at e2
        cases e2
      | some y =>
        obtain ⟨f, sA, c, pA⟩ := y
        rw [es] at e2 h
        dsimp only at h
        have e2 : (f, c, pA, fitA sA) = (Flow.next, cE, posA, true) := Option.some.inj e2
        have ef : f = .next := congrArg (·.1) e2
        have ec : c = cE := congrArg (·.2.1) e2
        have epos : pA = posA := congrArg (·.2.2.1) e2
        have hfit : fitA sA = true := congrArg (·.2.2.2) e2
        rw [ef, ec, epos] at es
        cases en : endT P w sA with
        | none =>
          have := h q0
          rw [en] at this
          cases this
        | some sB =>
          have c1 := goQ_ok ep
          rw [et, startQ start_no, ← body_split] at c1
          have c2 := segQ_ok (rest := stN :: body.drop 21) es
          obtain ⟨q, c3⟩ := next_cr (q := posA) (rest := body.drop 21) (b := body) (st := stN) rfl en hfit
          have k3 : Kp 11 (bootAnn w) sA.abs sB.abs := by
            rw [endT_ok en]
            exact end_kp (fit_of hfit).1
          have h4 := h q
          rw [en] at h4
          dsimp only [Option.bind] at h4
          obtain ⟨s1, h5, h6⟩ := Option.map_eq_some_iff.mp h4
          exact ⟨s1, h6, join hz c1 c2 ⟨c3, k3⟩ fun z => endQ_ok z h5⟩
end HdD
end
end
section
set_option Elab.async false
set_option linter.all false
set_option maxRecDepth 100000
/-! From a top that ran to the law. -/
noncomputable section
namespace HdD
open PySem PySem.W PySem.Calls PyProof.Rows HandSHeadRun HdR
/-- what stands behind the top -/
def Stands (p q : Program) (loose : List Str) (XP : (Str → Option Value) → Heap → Prop) (YP : World → Heap → Prop) (w : World) (s : Shared) : Prop :=
  s.asleep ∧ s.gens = #[] ∧ s.heap.isNs mainGlobals = true ∧ Ground q loose [] XP w s (s.heap.nsMap mainGlobals) (s.heap.nsMap builtinsNs) s.heap ∧ YP w s.heap
def Behind (p q : Program) (loose : List Str) (XP : (Str → Option Value) → Heap → Prop) (YP : World → Heap → Prop) (w : World) : Prop :=
  (∃ s, AfterRun (opening p) w s) ∧ ∀ s, AfterRun (opening p) w s → ∃ s0, fenceModules? p s = some s0 ∧ s0.gens = #[] ∧ ∃ s1, TopRan p w s0 s1 ∧ Stands p q loose XP YP w s1
theorem ann_of {w : World} {b : Addr} (h : globalOf (boot_heap w.params) "__annotations__" ≠ some (.ref b)) : bootAnn w ≠ some (.ref b) := fun z => by
  have e := Pin.globalOf_eq (boot_ns w.params) "__annotations__"
  exact h (e.trans z)
/-- a run from the boot -/
theorem Behind.of_run {p q : Program} {loose : List Str} {Xt : Shared → Bool} {XP : (Str → Option Value) → Heap → Prop} {YP : World → Heap → Prop} {n0 : Nat} {w : World} (e : opening p = plainProg p.main.scope.names) (f : ∀ s, fenceModules? p s = some s)
    (hsz : (boot_heap w.params).objs.size = n0) (hX : ∀ s, Xt s = true → XP (s.heap.nsMap mainGlobals) s.heap) (hch : chainsOk q = true)
    (run : ∀ os : OsState, (⟨boot_heap w.params, #[], boot_drawn, boot_toks, os⟩ : Shared).asleep → ∃ s1 : Shared, Thr p w n0 (bootAnn w) ⟨boot_heap w.params, #[], boot_drawn, boot_toks, os⟩ (topStub p) s1 ∧
      looksF p (boot_heap w.params) s1 = true ∧ openSeen q loose (importedModules p.main.body) Xt true s1 = openGood q loose ∧ YP w s1.heap) : Behind p q loose XP YP w := by
  obtain ⟨s0, a, a'⟩ := Option.map_eq_some_iff.mp (boot_open (N := 600) e rfl f w)
  rw [← table_eq_tree] at a
  obtain ⟨sb, b1, b2⟩ := Option.bind_eq_some_iff.mp a
  have af := AfterImport.of_importEnds b1
  refine ⟨⟨sb, af⟩, fun s hs => ?_⟩
  have es : s = sb := AfterImport.unique hs af
  rw [es]
  have z : s0.asleep := Shared.asleep_of_life (fence_lifeW b2) af.life
  obtain ⟨heap, gens, drawn, toks, os⟩ := s0
  obtain ⟨rfl, rfl, rfl, rfl⟩ : heap = boot_heap w.params ∧ gens = Array.mk [] ∧ drawn = boot_drawn ∧ toks = boot_toks := by simpa using a'
  obtain ⟨s1, th, l1, l2, l3⟩ := run os z
  unfold looksF at l1
  obtain ⟨l1, l4⟩ := Bool.and_eq_true_iff.mp l1
  obtain ⟨l1, l5⟩ := Bool.and_eq_true_iff.mp l1
  obtain ⟨l1, l6⟩ := Bool.and_eq_true_iff.mp l1
  obtain ⟨G, g0, g1, g2, g3, g4, g5⟩ := ground_of_open (w := w) hX hch l2
  refine ⟨_, b2, rfl, s1, ?_, Shared.asleep_of_life th.life z, Array.eq_empty_of_size_eq_zero (beq_iff_eq.mp g0), g1, G, l3⟩
  refine ⟨th.run, th.life, Shared.rest_eq th.kp.os, fun b o hb hn => ?_, g2, statics_of_ok l1, g3, g4, g5, gens_of_done l5, names_of_bound l6, laid_of_kept l4⟩
  exact th.kp.kept b o (hsz ▸ Heap.lt_size hb) (fun y => hn (.inl y)) (fun y => hn (.inr (.inl y))) (ann_of fun y => hn (.inr (.inr y))) hb
theorem law_of {r : OpenRow} {q : Program} {loose : List Str} {XP : (Str → Option Value) → Heap → Prop} {YP : World → Heap → Prop} {d : DefRec} {kwd : List (Str × Expr)}
    (bh : ∀ w, Behind r.prog q loose (fun mg h => XP mg h ∧ RecFacts r.records h) YP w) (hYk : ∀ w h h', YP w h → (∀ b o, h.get? b = some o → h'.get? b = some o) → YP w h') (hXk : ∀ mg h h', XP mg h → (∀ b o, h.get? b = some o → h'.get? b = some o) → XP mg h')
    (hdef : defOf q r.name = some (d, kwd)) (hp : r.prog.theDef r.name = some (d.params, d.body, d.scope)) (hk : kwWritten? d.params.kwonlyargs d.params.kw_defaults = some kwd) (hwr : (!r.writes || r.records.isEmpty) = true)
    (k1 : r.wellSaid = true) (ok : (opensWell r.prog && (frees r.toRowW && r.within.isEmpty)) = true) (hb : r.prog.bare) (hw : r.toRowW.promised)
    (walk : WalkO q loose XP YP r.toRowW d kwd fun f vs => PySem.call f vs) : OpenRow.Holds r := by
  obtain ⟨o1, ok⟩ := Bool.and_eq_true_iff.mp ok
  obtain ⟨k5, k6⟩ := Bool.and_eq_true_iff.mp ok
  obtain ⟨hsame, hu, hargs, hap, hm⟩ := frees_parts k5
  refine ⟨k1, hw, ⟨hb, o1, ?_⟩, hw.witness, fun w => ⟨(bh w).1, fun s' hs' => ?_⟩⟩
  · show r.makers.map _ = []
    rw [hm]
    rfl
  obtain ⟨s0, hf, hg0, s, hT, hz, hgens, hg, GG, hy⟩ := (bh w).2 s' hs'
  have RF := GG.X.2
  have G0 : Ground q loose [] XP w s (s.heap.nsMap mainGlobals) (s.heap.nsMap builtinsNs) s.heap := { GG with X := GG.X.1 }
  refine ⟨s0, hf, hg0, s, hT, fun n hn => ?_, RF.1, RF.2.1, ?_⟩
  · have en : n = r.name := by
      split at hn
      all_goals simp_all
    rw [en]
    exact pinned_of_view hg G0 hdef hp hk
  have GR : Ground q loose r.records XP w s _ _ s.heap := RecFacts.ground RF G0
  refine ClaimW.callFrom_of_specG (c := r.toRowW.claim) hz hgens fun args hpre hlay ord hord => ?_
  obtain ⟨vl, hlaid⟩ := Option.isSome_iff_exists.mp (layAllW_isSome (P := w.params) (ord := ord) GR.has args r.args s (pre_splitW hpre).1)
  obtain ⟨vs, s1⟩ := vl
  have kept := layAllW_keeps _ _ _ hlaid
  have rest := layAllW_rest _ _ _ hlaid
  obtain ⟨as, hrd, hin, hold⟩ := reads_layAllW hord _ _ _ hlaid hlay s1.heap (fun _ _ z => z)
  have L : Laid r.records w s s1 args vs as := ⟨⟨ord, hord, hlaid⟩, hrd, hin, hold, kept, rest.1.trans hgens, rest.2.2.1⟩
  have G1 := GR.keeps hXk kept
  obtain ⟨a, o, pm, cd, doc, dV, kV, h1, h2, h3, h4, h5⟩ := G1.fn hdef
  have go := walk w s s1 _ _ G1 (hYk _ _ _ hy kept) a o pm cd doc dV kV h2 h3 h4 h5 (defOf_name hdef ▸ h1) L.gens args vs as hpre hlay L.reads L.well (L.low GR.low)
  have hi := ident_freeW hu hargs hap
  have hwi : r.toRowW.claim.within = [] := List.isEmpty_iff.mp k6
  have fin : ∀ (rs : Result) (sx : Shared), GoodWG r.toRowW.claim (classAt s.heap) (ExcName.means s.heap) args s1 rs sx → r.toRowW.claim.Ends s args vs s1 rs sx ∧ sx.os = s.os ∧ AllBare sx.gens ∧ (r.writes = true → namesKept r.prog r.keeps s.heap sx.heap ∧ ∀ x ∈ r.records, ∀ a, classAt s.heap x.1 = some a → recordClass sx.heap a x.1 (x.2.map (·.1)) = true) := fun rs sx g => by
    have y := g.laid (c := r.toRowW.claim) hsame hwi hi L
    exact ⟨y.1, y.2.1, y.2.2, fun wr => ⟨namesKept_of hT hg r.keeps kept g.2.1.old, noTable hwr wr⟩⟩
  refine ⟨vs, s1, hlaid, ?_⟩
  refine wpAny_bind (wpAny_nsGet G1.T.g ?_)
  rw [h1]
  exact wpAny_bind (wpAny_mono go (fun v sx g => wpAny_pure ⟨_, rfl, fin _ sx g⟩) fun v sx g => fin _ sx g)
end HdD
end
end
section
set_option Elab.async false
set_option linter.all false
set_option maxRecDepth 100000
/-! The network in plain Lean: persons with their phones and queues, calls; what stays true. -/
namespace Mth
open L2 (V)
open PySem (Addr)
inductive Nw | idle | starting | looking | alerting | active | ringing | clearing deriving DecidableEq
inductive Sg | looking | offered | ringing | answered | active deriving DecidableEq
inductive Msg | setup (v : V) | proceeding | alerting | connect | cdone | disc (c : V) | word (w : V) | sacc | rel deriving DecidableEq
/-- a person: phone, link flags, the page flag, queues -/
structure Pd where
  now : Nw
  rs : V
  num : V
  mkd : Bool
  said : List V
  heard : List V
  li : Bool
  re : Bool
  pa : Bool
  up : List Msg
  dn : List Msg
structure Cl where
  ad : Addr
  cr : Nat
  cd : Option Nat
  st : Sg
  hops : Int
  since : Int
  line : Option Nat
structure M where
  pd : Nat → Pd
  cs : List Cl
  bk : List Bool
def M.set (m : M) (i : Nat) (d : Pd) : M := { m with pd := fun j => if j = i then d else m.pd j }
theorem set_same (m : M) (i : Nat) (d : Pd) : (m.set i d).pd i = d := if_pos rfl
theorem set_ne (m : M) {i j : Nat} (d : Pd) (h : j ≠ i) : (m.set i d).pd j = m.pd j := if_neg h
/-! ### phones -/
def words : List Msg → List V
  | [] => []
  | .word w :: r => w :: words r
  | _ :: r => words r
theorem words_app : ∀ (a b : List Msg), words (a ++ b) = words a ++ words b
  | [], b => rfl
  | x :: a, b => by
    cases x <;> simp [words, words_app a b]
def stp : Nw → Msg → Option Nw
  | .starting, .proceeding => some .looking
  | .looking, .alerting => some .alerting
  | .alerting, .alerting => some .alerting
  | .looking, .connect => some .active
  | .alerting, .connect => some .active
  | .idle, .setup _ => some .ringing
  | .ringing, .cdone => some .active
  | .active, .word _ => some .active
  | _, _ => none
def sim : Nw → List Msg → Option Nw
  | a, [] => some a
  | a, x :: r => match stp a x with
    | some b => sim b r
    | none => none
theorem sim_cons (a : Nw) (x : Msg) (r : List Msg) : sim a (x :: r) = (stp a x).bind fun b => sim b r := by
  show (match stp a x with
    | some b => sim b r
    | none => none) = _
  cases stp a x <;> rfl
theorem sim_app (r : List Msg) : ∀ (l : List Msg) (a b : Nw), sim a l = some b → sim a (l ++ r) = sim b r
  | [], a, b, h => by
    cases h
    rfl
  | x :: l, a, b, h => by
    rw [sim_cons] at h
    rw [List.cons_append, sim_cons]
    cases e : stp a x with
    | none =>
      rw [e] at h
      cases h
    | some c =>
      rw [e] at h
      exact sim_app r l c b h
/-- begin(state) -/
def Pd.begin (d : Pd) (s : Nw) : Pd := { d with now := s, mkd := false, said := [], heard := [] }
/-- move(kind): the new phone, the answers -/
def Pd.move (d : Pd) (x : Msg) : Pd × List Msg := match d.now, x with
  | .starting, .proceeding => ({ d with now := .looking }, [])
  | .looking, .alerting => ({ d with now := .alerting }, [])
  | .looking, .connect => ({ d with now := .active }, [.cdone])
  | .alerting, .connect => ({ d with now := .active }, [.cdone])
  | .idle, .setup _ => (d.begin .ringing, [.alerting])
  | _, _ => (d, [])
def Pd.take (d : Pd) (x : Msg) : Pd × List Msg := match x with
  | .disc c => (if d.now ≠ .idle ∧ d.now ≠ .clearing then { d with now := .idle, rs := c } else d, [])
  | .word w => (if d.now = .active then { d with heard := d.heard ++ [w] } else d, [])
  | .sacc => if d.now ≠ .starting ∨ d.mkd = true then (d, []) else ({ d with mkd := true }, [.setup d.num])
  | .cdone => (if d.now = .ringing ∧ d.mkd = true then { d with now := .active } else d, [])
  | x => d.move x
def Pd.unlink (d : Pd) (cause : V) : Pd := { d with now := .idle, rs := if cause ≠ .non ∧ d.now ≠ .idle ∧ d.now ≠ .clearing then cause else d.rs, li := false, up := [], dn := [] }
def Pd.link (d : Pd) (q : List Msg) : Pd := { d with li := true, re := false, up := [], dn := q }
/-- one message down -/
def Pd.down (d : Pd) : Pd := match d.dn with
  | [] => d
  | .rel :: _ => d.unlink .non
  | x :: r => { ({ d with dn := r }.take x).1 with up := d.up ++ ({ d with dn := r }.take x).2 }
def Pd.say (d : Pd) (w : V) : Pd := { d with said := d.said ++ [w], up := d.up ++ [.word w] }
def Pd.hang (d : Pd) : Pd := { d with rs := .int 16, now := .clearing, up := d.up ++ [.disc (.int 16)] }
def Pd.answer (d : Pd) : Pd := { d with mkd := true, up := d.up ++ [.connect] }
def Pd.dial (d : Pd) (v : V) : Pd := ({ d.begin .starting with num := v }).link [.sacc]
/-! ### what stays true -/
def fit (caller talk : Bool) (f : Nw) : Prop := if talk then f = .active else if caller then f = .looking ∨ f = .alerting else f = .ringing
def quiet (a : Nw) : Prop := a = .starting ∨ a = .looking ∨ a = .alerting ∨ a = .ringing
structure LegN (caller talk : Bool) (d : Pd) : Prop where
  sm : ∃ f, sim d.now d.dn = some f ∧ fit caller talk f
  wd : ∀ w, Msg.word w ∈ d.up → d.now = .active
  qt : quiet d.now → d.said = [] ∧ d.heard = []
  mk1 : d.now = .starting → d.mkd = true
  mk2 : Msg.connect ∈ d.up → d.now = .active ∨ (d.now = .ringing ∧ d.mkd = true)
  mk3 : talk = true → d.now = .ringing → d.mkd = true
  tk : talk = true → d.now ≠ .idle
structure Leg (caller talk : Bool) (d : Pd) : Prop where
  li : d.li = true
  re : d.re = false
  rl : Msg.rel ∉ d.dn
  st : ∀ v, Msg.setup v ∉ d.up
  ok : d.now ≠ .clearing → LegN caller talk d
def FreeL (d : Pd) : Prop := (d.now = .idle ∧ d.up = [] ∧ d.dn = []) ∨ (d.now = .starting ∧ d.mkd = false ∧ d.up = [] ∧ d.dn = [.sacc] ∧ d.said = [] ∧ d.heard = []) ∨
  (d.now = .starting ∧ d.mkd = true ∧ (∃ v, d.up = [.setup v]) ∧ d.dn = [] ∧ d.said = [] ∧ d.heard = []) ∨ (d.now = .clearing ∧ Msg.rel ∉ d.dn ∧ ∀ v, Msg.setup v ∉ d.up.tail)
structure Free (d : Pd) : Prop where
  off : d.li = false → d.now = .idle ∧ d.up = [] ∧ d.dn = []
  on : d.li = true → d.re = false → FreeL d
/-- two sides of one conversation -/
def Ci (a b : Pd) : Prop := a.now ≠ .clearing → b.now ≠ .clearing → a.said = b.heard ++ words b.dn ++ words a.up ∧ b.said = a.heard ++ words a.dn ++ words b.up
theorem Ci.symm {a b : Pd} (h : Ci a b) : Ci b a := fun h1 h2 => (h h2 h1).symm
def Sg.talk : Sg → Bool
  | .answered => true
  | .active => true
  | _ => false
structure CallOk (c : Cl) (a b : Pd) : Prop where
  cr : Leg true c.st.talk a
  cd : c.st ≠ .looking → Leg false c.st.talk b
  lk : c.st = .looking → Free b
  ci : c.st.talk = true → Ci a b
def sides (cs : List Cl) : List Nat := cs.flatMap fun c => c.cr :: c.cd.toList
structure Good (n : Nat) (m : M) : Prop where
  cdS : ∀ c ∈ m.cs, ∃ g, c.cd = some g
  lt : ∀ i ∈ sides m.cs, i < n
  nd : (sides m.cs).Nodup
  bkO : ∀ c ∈ m.cs, ∀ k, c.line = some k → m.bk[k]? = some true
  bkD : (m.cs.filterMap (·.line)).Nodup
  call : ∀ c ∈ m.cs, ∀ g, c.cd = some g → CallOk c (m.pd c.cr) (m.pd g)
  free : ∀ i, i < n → i ∉ sides m.cs → Free (m.pd i)
/-! ### a person's own moves -/
/-- a move that keeps what is true, whatever one's part -/
structure Loc (d e : Pd) : Prop where
  leg : ∀ b t, Leg b t d → Leg b t e
  free : Free d → Free e
  ci : ∀ b x, Leg b true d → Ci d x → Ci e x
theorem sides_cr {cs : List Cl} {c : Cl} (h : c ∈ cs) : c.cr ∈ sides cs := List.mem_flatMap.mpr ⟨c, h, List.mem_cons_self⟩
theorem sides_cd {cs : List Cl} {c : Cl} {g : Nat} (h : c ∈ cs) (e : c.cd = some g) : g ∈ sides cs := List.mem_flatMap.mpr ⟨c, h, by rw [e]; simp⟩
theorem nd_cons {c : Cl} {cs : List Cl} (h : (sides (c :: cs)).Nodup) : (∀ g, c.cd = some g → c.cr ≠ g ∧ g ∉ sides cs) ∧ c.cr ∉ sides cs ∧ (sides cs).Nodup := by
  have e : sides (c :: cs) = c.cr :: (c.cd.toList ++ sides cs) := rfl
  rw [e, List.nodup_cons, List.mem_append, not_or, List.nodup_append] at h
  obtain ⟨⟨h1, h2⟩, h3, h4, h5⟩ := h
  refine ⟨fun g eg => ?_, h2, h4⟩
  rw [eg] at h1 h5
  refine ⟨fun z => h1 (by simp [z]), fun z => h5 g (by simp) g z rfl⟩
/-- one's side tells the call -/
theorem side_uniq : ∀ {cs : List Cl} (_ : (sides cs).Nodup) {c e : Cl} {i : Nat}, c ∈ cs → e ∈ cs → (i = c.cr ∨ c.cd = some i) → (i = e.cr ∨ e.cd = some i) → c = e
  | [], _, _, _, _, h, _, _, _ => nomatch h
  | x :: cs, hn, c, e, i, h1, h2, h3, h4 => by
    obtain ⟨g1, g2, g3⟩ := nd_cons hn
    have key : ∀ {y : Cl}, y ∈ cs → (i = y.cr ∨ y.cd = some i) → i ∈ sides cs := fun hy hi => hi.elim (fun z => z ▸ sides_cr hy) (fun z => sides_cd hy z)
    have key2 : (i = x.cr ∨ x.cd = some i) → i ∉ sides cs := fun hi => hi.elim (fun z => z ▸ g2) (fun z => (g1 i z).2)
    rcases List.mem_cons.mp h1 with e1 | e1 <;> rcases List.mem_cons.mp h2 with e2 | e2
    · rw [e1, e2]
    · exact absurd (key e2 h4) (key2 (e1 ▸ h3))
    · exact absurd (key e1 h3) (key2 (e2 ▸ h4))
    · exact side_uniq g3 e1 e2 h3 h4
theorem side_of {cs : List Cl} {i : Nat} (h : i ∈ sides cs) : ∃ c ∈ cs, i = c.cr ∨ c.cd = some i := by
  obtain ⟨c, hc, hi⟩ := List.mem_flatMap.mp h
  refine ⟨c, hc, ?_⟩
  rcases List.mem_cons.mp hi with z | z
  · exact .inl z
  · right
    cases e : c.cd with
    | none =>
      rw [e] at z
      cases z
    | some g =>
      rw [e] at z
      have : i = g := by simpa using z
      rw [this]
theorem cr_ne_cd {n : Nat} {m : M} (G : Good n m) {c : Cl} {g : Nat} (hc : c ∈ m.cs) (e : c.cd = some g) : c.cr ≠ g := by
  have : ∀ {cs : List Cl}, (sides cs).Nodup → c ∈ cs → c.cr ≠ g := by
    intro cs
    induction cs with
    | nil => exact fun _ h => nomatch h
    | cons x cs ih =>
      intro hn hm
      obtain ⟨g1, g2, g3⟩ := nd_cons hn
      rcases List.mem_cons.mp hm with rfl | hm
      · exact (g1 g e).1
      · exact ih g3 hm
  exact this G.nd hc
theorem Good.loc {n : Nat} {m : M} (G : Good n m) {i : Nat} {e : Pd} (h : Loc (m.pd i) e) : Good n (m.set i e) := by
  refine ⟨G.cdS, G.lt, G.nd, G.bkO, G.bkD, fun c hc g hg => ?_, fun j hj hs => ?_⟩
  · have K := G.call c hc g hg
    have ne := cr_ne_cd G hc hg
    by_cases h1 : c.cr = i
    · have h2 : g ≠ i := fun z => ne (h1.trans z.symm)
      rw [h1, set_same, set_ne _ _ h2]
      rw [h1] at K
      exact ⟨h.leg _ _ K.cr, K.cd, K.lk, fun t => h.ci true _ (t ▸ K.cr) (K.ci t)⟩
    · rw [set_ne _ _ h1]
      by_cases h2 : g = i
      · rw [h2, set_same]
        rw [h2] at K
        refine ⟨K.cr, fun z => h.leg _ _ (K.cd z), fun z => h.free (K.lk z), fun t => ?_⟩
        have z : c.st ≠ .looking := fun q => by
          rw [q] at t
          cases t
        exact (h.ci false _ (t ▸ K.cd z) (K.ci t).symm).symm
      · rw [set_ne _ _ h2]
        exact K
  · have K := G.free j hj hs
    by_cases h1 : j = i
    · subst h1
      rw [set_same]
      exact h.free K
    · rw [set_ne _ _ h1]
      exact K
end Mth
end
section
set_option Elab.async false
set_option linter.all false
set_option maxRecDepth 100000
/-! A person's own moves keep what is true. -/
namespace Mth
open L2 (V)
theorem sim_active : ∀ (r : List Msg) (f : Nw), sim .active r = some f → f = .active
  | [], f, h => by
    cases h
    rfl
  | x :: r, f, h => by
    rw [sim_cons] at h
    cases x with
    | word w => exact sim_active r f h
    | _ => cases h
theorem fit_active {b t : Bool} (h : fit b t .active) : t = true := by
  unfold fit at h
  cases t with
  | true => rfl
  | false => cases b <;> simp at h
theorem take_clearing (d : Pd) (x : Msg) (h : d.now = .clearing) : d.take x = (d, []) := by
  cases x <;> simp [Pd.take, Pd.move, h]
theorem no_leg_off {b t : Bool} {d : Pd} (h : Leg b t d) (z : d.li = false) : False := by
  have := h.li
  rw [z] at this
  cases this
theorem no_leg_re {b t : Bool} {d : Pd} (h : Leg b t d) (z : d.re = true) : False := by
  have := h.re
  rw [z] at this
  cases this
theorem freeL_rel {d : Pd} (h : FreeL d) : Msg.rel ∉ d.dn := by
  rcases h with ⟨_, _, h⟩ | ⟨_, _, _, h, _⟩ | ⟨_, _, _, h, _⟩ | ⟨_, h, _⟩
  · rw [h]
    simp
  · rw [h]
    simp
  · rw [h]
    simp
  · exact h
/-- a released person's queues may do what they will -/
theorem Loc.of_re {d e : Pd} (h : d.re = true) (h1 : d.li = true) (h2 : e.re = true) (h3 : e.li = true) : Loc d e := by
  refine ⟨fun b t l => (no_leg_re l h).elim, fun _ => ⟨fun z => ?_, fun _ z => ?_⟩, fun b x l => (no_leg_re l h).elim⟩
  · rw [h3] at z
    cases z
  · rw [h2] at z
    cases z
theorem Loc.id_ (d : Pd) : Loc d d := ⟨fun _ _ h => h, id, fun _ _ _ h => h⟩
theorem Loc.trans {a b c : Pd} (h : Loc a b) (k : Loc b c) : Loc a c := ⟨fun _ _ l => k.leg _ _ (h.leg _ _ l), fun l => k.free (h.free l), fun _ _ l z => k.ci _ _ (h.leg _ _ l) (h.ci _ _ l z)⟩
/-- the page flag -/
theorem Loc.page (d : Pd) (b : Bool) : Loc d { d with pa := b } :=
  ⟨fun _ _ h => ⟨h.li, h.re, h.rl, h.st, fun z => ⟨(h.ok z).sm, (h.ok z).wd, (h.ok z).qt, (h.ok z).mk1, (h.ok z).mk2, (h.ok z).mk3, (h.ok z).tk⟩⟩, fun h => ⟨h.off, h.on⟩, fun _ _ _ h => h⟩
theorem Loc.unlink {d : Pd} (c : V) (h : Msg.rel ∈ d.dn) : Loc d (d.unlink c) :=
  ⟨fun b t l => absurd h l.rl, fun _ => ⟨fun _ => ⟨rfl, rfl, rfl⟩, fun z => nomatch z⟩, fun _ _ l => absurd h l.rl⟩
theorem Loc.dial {d : Pd} (v : V) (h1 : d.now = .idle) (h2 : d.li = false) : Loc d (d.dial v) :=
  ⟨fun b t l => (no_leg_off l h2).elim, fun _ => ⟨fun z => (nomatch z), fun _ _ => .inr (.inl ⟨rfl, rfl, rfl, rfl, rfl, rfl⟩)⟩, fun _ _ l => (no_leg_off l h2).elim⟩
/-- linked, nothing more -/
theorem Loc.link {d : Pd} (h1 : d.now = .idle) (h2 : d.li = false) : Loc d (d.link []) :=
  ⟨fun b t l => (no_leg_off l h2).elim, fun _ => ⟨fun z => (nomatch z), fun _ _ => .inl ⟨h1, rfl, rfl⟩⟩, fun _ _ l => (no_leg_off l h2).elim⟩
theorem words_mem {w : V} : ∀ {l : List Msg}, w ∈ words l → Msg.word w ∈ l
  | x :: l, h => by
    cases x with
    | word u =>
      rcases List.mem_cons.mp h with e | e
      · rw [e]
        exact List.mem_cons_self
      · exact List.mem_cons_of_mem _ (words_mem e)
    | _ => exact List.mem_cons_of_mem _ (words_mem h)
/-- a message ahead of the queue is dropped -/
theorem Loc.pop {d : Pd} {x : Msg} {r : List Msg} (h : d.up = x :: r) (hw : ∀ w, x ≠ .word w) (hs : ∀ v, x ≠ .setup v) : Loc d { d with up := r } := by
  have sub : ∀ {y : Msg}, y ∈ r → y ∈ d.up := fun z => h ▸ List.mem_cons_of_mem _ z
  refine ⟨fun b t l => ⟨l.li, l.re, l.rl, fun v z => l.st v (sub z), fun z => ?_⟩, fun f => ⟨fun z => ?_, fun z1 z2 => ?_⟩, fun b y l k z1 z2 => ?_⟩
  · have k := l.ok z
    exact ⟨k.sm, fun w z => k.wd w (sub z), k.qt, k.mk1, fun z => k.mk2 (sub z), k.mk3, k.tk⟩
  · have := f.off z
    rw [h] at this
    cases this.2.1
  · rcases f.on z1 z2 with ⟨_, q, _⟩ | ⟨_, _, q, _⟩ | ⟨_, _, ⟨v, q⟩, _⟩ | ⟨a1, a2, a3⟩
    · rw [h] at q
      cases q
    · rw [h] at q
      cases q
    · rw [h] at q
      exact absurd (List.cons.inj q).1 (hs v)
    · refine .inr (.inr (.inr ⟨a1, a2, fun v z => a3 v ?_⟩))
      rw [h]
      exact List.mem_of_mem_tail z
  · have k2 := k z1 z2
    have e : words d.up = words r := by
      rw [h]
      cases x with
      | word w => exact absurd rfl (hw w)
      | _ => rfl
    rw [e] at k2
    exact k2
theorem Loc.say {d : Pd} (w : V) (h : d.now = .active) : Loc d (d.say w) := by
  refine ⟨fun b t l => ⟨l.li, l.re, l.rl, fun v z => ?_, fun z => ?_⟩, fun f => ⟨fun z => ?_, fun z1 z2 => ?_⟩, fun b y l k z1 z2 => ?_⟩
  · rcases List.mem_append.mp z with z | z
    · exact l.st v z
    · simp at z
  · have k := l.ok z
    refine ⟨k.sm, fun _ _ => h, fun q => ?_, fun q => ?_, fun _ => .inl h, k.mk3, k.tk⟩
    · have q : quiet d.now := q
      rw [h] at q
      unfold quiet at q
      simp at q
    · have q : d.now = .starting := q
      rw [h] at q
      cases q
  · have := (f.off z).1
    rw [h] at this
    cases this
  · rcases f.on z1 z2 with ⟨q, _⟩ | ⟨q, _⟩ | ⟨q, _⟩ | ⟨q, _⟩ <;> (rw [h] at q; cases q)
  · obtain ⟨k1, k2⟩ := k z1 z2
    refine ⟨?_, k2⟩
    show d.said ++ [w] = y.heard ++ words y.dn ++ words (d.up ++ [.word w])
    rw [k1, words_app]
    simp [words]
theorem Loc.hang {d : Pd} (h1 : d.now ≠ .idle) (h2 : d.now ≠ .clearing) : Loc d d.hang := by
  refine ⟨fun b t l => ⟨l.li, l.re, l.rl, fun v z => ?_, fun z => absurd rfl z⟩, fun f => ⟨fun z => absurd (f.off z).1 h1, fun z1 z2 => ?_⟩, fun b y l k z1 => absurd rfl z1⟩
  · rcases List.mem_append.mp z with z | z
    · exact l.st v z
    · simp at z
  · have fr : Msg.rel ∉ d.dn := freeL_rel (f.on z1 z2)
    refine .inr (.inr (.inr ⟨rfl, fr, fun v z => ?_⟩))
    have z : Msg.setup v ∈ (d.up ++ [Msg.disc (.int 16)]).tail := z
    rcases f.on z1 z2 with ⟨q, _⟩ | ⟨_, _, q, _⟩ | ⟨_, _, ⟨u, q⟩, _⟩ | ⟨q, _⟩
    · exact h1 q
    · rw [q] at z
      simp at z
    · rw [q] at z
      simp at z
    · exact h2 q
theorem Loc.answer {d : Pd} (h : d.now = .ringing) : Loc d d.answer := by
  refine ⟨fun b t l => ⟨l.li, l.re, l.rl, fun v z => ?_, fun z => ?_⟩, fun f => ⟨fun z => ?_, fun z1 z2 => ?_⟩, fun b y l k z1 z2 => ?_⟩
  · rcases List.mem_append.mp z with z | z
    · exact l.st v z
    · simp at z
  · have k := l.ok z
    refine ⟨k.sm, fun w q => ?_, k.qt, fun _ => rfl, fun _ => .inr ⟨h, rfl⟩, fun _ _ => rfl, k.tk⟩
    rcases List.mem_append.mp q with q | q
    · exact k.wd w q
    · simp at q
  · have := (f.off z).1
    rw [h] at this
    cases this
  · rcases f.on z1 z2 with ⟨q, _⟩ | ⟨q, _⟩ | ⟨q, _⟩ | ⟨q, _⟩ <;> (rw [h] at q; cases q)
  · have e : words (d.up ++ [.connect]) = words d.up := by
      rw [words_app]
      simp [words]
    have k2 := k z1 z2
    rw [← e] at k2
    exact k2
/-! ### a message taken -/
theorem down_cons {d : Pd} {x : Msg} {r : List Msg} (h : d.dn = x :: r) (hr : x ≠ .rel) : d.down = { ({ d with dn := r }.take x).1 with up := d.up ++ ({ d with dn := r }.take x).2 } := by
  unfold Pd.down
  rw [h]
  cases x <;> first | rfl | exact absurd rfl hr
theorem leg_step {b t : Bool} {d : Pd} {x : Msg} {r : List Msg} (h : d.dn = x :: r) (l : LegN b t d) : ∃ a, stp d.now x = some a ∧ ∃ f, sim a r = some f ∧ fit b t f := by
  obtain ⟨f, h1, h2⟩ := l.sm
  rw [h, sim_cons] at h1
  cases e : stp d.now x with
  | none =>
    rw [e] at h1
    cases h1
  | some a =>
    rw [e] at h1
    exact ⟨a, rfl, f, h1, h2⟩
/-- what a leg does with the message ahead -/
theorem leg_down {b t : Bool} {d : Pd} {x : Msg} {r : List Msg} (h : d.dn = x :: r) (hr : x ≠ .rel) (l : Leg b t d) (hc : d.now ≠ .clearing) :
    (∃ a, stp d.now x = some a ∧ d.now ≠ .active ∧ a ≠ .active ∧ a ≠ .ringing ∧ d.now ≠ .starting ∧ d.down = { d with now := a, dn := r }) ∨
    (d.now = .starting ∧ x = .proceeding ∧ d.down = { d with now := .looking, dn := r }) ∨
    ((d.now = .looking ∨ d.now = .alerting) ∧ x = .connect ∧ d.down = { d with now := .active, dn := r, up := d.up ++ [.cdone] }) ∨
    (d.now = .idle ∧ (∃ v, x = .setup v) ∧ d.down = { d with now := .ringing, mkd := false, said := [], heard := [], dn := r, up := d.up ++ [.alerting] }) ∨
    (d.now = .ringing ∧ x = .cdone ∧ t = true ∧ d.down = { d with now := .active, dn := r }) ∨
    (d.now = .active ∧ ∃ w, x = .word w ∧ d.down = { d with heard := d.heard ++ [w], dn := r }) := by
  have k := l.ok hc
  obtain ⟨a, h1, f, h2, h3⟩ := leg_step h k
  rw [down_cons h hr]
  obtain ⟨now, rs, num, mkd, said, heard, li, re, pa, up, dn⟩ := d
  dsimp only at h h1 hc k ⊢
  subst h
  cases now <;> cases x <;> first | (cases h1; done) | skip
  · exact .inr (.inr (.inr (.inl ⟨rfl, ⟨_, rfl⟩, by simp [Pd.take, Pd.move, Pd.begin]⟩)))
  · exact .inr (.inl ⟨rfl, rfl, by simp [Pd.take, Pd.move]⟩)
  · exact .inl ⟨a, h1, by simp, by rw [← Option.some.inj h1]; simp, by rw [← Option.some.inj h1]; simp, by simp, by rw [← Option.some.inj h1]; simp [Pd.take, Pd.move]⟩
  · exact .inr (.inr (.inl ⟨.inl rfl, rfl, by simp [Pd.take, Pd.move]⟩))
  · exact .inl ⟨a, h1, by simp, by rw [← Option.some.inj h1]; simp, by rw [← Option.some.inj h1]; simp, by simp, by rw [← Option.some.inj h1]; simp [Pd.take, Pd.move]⟩
  · exact .inr (.inr (.inl ⟨.inr rfl, rfl, by simp [Pd.take, Pd.move]⟩))
  · exact .inr (.inr (.inr (.inr (.inr ⟨rfl, _, rfl, by simp [Pd.take]⟩))))
  · have ea : a = .active := (Option.some.inj h1).symm
    rw [ea] at h2
    have ef := sim_active r f h2
    rw [ef] at h3
    have et := fit_active h3
    have em := k.mk3 et rfl
    dsimp only at em
    exact .inr (.inr (.inr (.inr (.inl ⟨rfl, rfl, et, by simp [Pd.take, em]⟩))))
end Mth
end
section
set_option Elab.async false
set_option linter.all false
set_option maxRecDepth 100000
/-! A message taken keeps what is true. -/
namespace Mth
open L2 (V)
theorem down_clearing {d : Pd} {x : Msg} {r : List Msg} (h : d.dn = x :: r) (hr : x ≠ .rel) (hc : d.now = .clearing) : d.down = { d with dn := r } := by
  rw [down_cons h hr]
  have hc2 : ({ d with dn := r } : Pd).now = .clearing := hc
  rw [take_clearing _ _ hc2]
  simp
theorem tail_rl {d : Pd} {x : Msg} {r : List Msg} (h : d.dn = x :: r) (k : Msg.rel ∉ d.dn) : Msg.rel ∉ r ∧ x ≠ .rel := by
  rw [h] at k
  exact ⟨fun z => k (List.mem_cons_of_mem _ z), fun z => k (z ▸ List.mem_cons_self)⟩
theorem not_mem_app {p : Msg} {a : List Msg} {b : Msg} (h : p ∉ a) (k : p ≠ b) : p ∉ a ++ [b] := fun z => by
  rcases List.mem_append.mp z with z | z
  · exact h z
  · exact k (List.mem_singleton.mp z)
theorem mem_app1 {p : Msg} {a : List Msg} {b : Msg} (h : p ∈ a ++ [b]) (k : p ≠ b) : p ∈ a := by
  rcases List.mem_append.mp h with z | z
  · exact z
  · exact absurd (List.mem_singleton.mp z) k
theorem not_quiet_active {a : Nw} (h : a = .active) : ¬ quiet a := by
  subst h
  unfold quiet
  simp
theorem down_leg {b t : Bool} {d : Pd} (l : Leg b t d) : Leg b t d.down := by
  cases e : d.dn with
  | nil =>
    have : d.down = d := by
      unfold Pd.down
      rw [e]
    rw [this]
    exact l
  | cons x r =>
    obtain ⟨q1, q2⟩ := tail_rl e l.rl
    by_cases hc : d.now = .clearing
    · rw [down_clearing e q2 hc]
      exact ⟨l.li, l.re, q1, l.st, fun z => absurd hc z⟩
    have k := l.ok hc
    obtain ⟨a0, ha0, f, h2, h3⟩ := leg_step e k
    rcases leg_down e q2 l hc with ⟨a, ha, n1, n2, n3, n4, ed⟩ | ⟨n1, rfl, ed⟩ | ⟨n1, rfl, ed⟩ | ⟨n1, ⟨v, rfl⟩, ed⟩ | ⟨n1, rfl, et, ed⟩ | ⟨n1, w, rfl, ed⟩
    · rw [ed]
      have ea : a0 = a := Option.some.inj (ha0.symm.trans ha)
      rw [ea] at h2
      have nw : ∀ w, Msg.word w ∉ d.up := fun w z => n1 (k.wd w z)
      have nr : d.now ≠ .ringing := fun z => by
        rw [z] at ha
        cases x <;> cases ha
        exact n2 rfl
      refine ⟨l.li, l.re, q1, l.st, fun _ => ⟨⟨f, h2, h3⟩, fun w z => absurd z (nw w), fun _ => k.qt ?_, fun z => ?_, fun z => ?_, fun _ z => absurd z n3, fun _ z => ?_⟩⟩
      · unfold quiet
        cases en : d.now with
        | idle =>
          exfalso
          rw [en] at ha
          cases x <;> cases ha
          exact n3 rfl
        | active => exact absurd en n1
        | clearing => exact absurd en hc
        | starting => exact .inl rfl
        | looking => exact .inr (.inl rfl)
        | alerting => exact .inr (.inr (.inl rfl))
        | ringing => exact .inr (.inr (.inr rfl))
      · exfalso
        have z : a = .starting := z
        rw [z] at ha
        cases en : d.now <;> rw [en] at ha <;> cases x <;> cases ha
      · rcases k.mk2 z with z | z
        · exact absurd z n1
        · exact absurd z.1 nr
      · have z : a = .idle := z
        rw [z] at ha
        cases en : d.now <;> rw [en] at ha <;> cases x <;> cases ha
    · rw [ed]
      have ea : a0 = .looking := by
        rw [n1] at ha0
        exact (Option.some.inj ha0).symm
      rw [ea] at h2
      refine ⟨l.li, l.re, q1, l.st, fun _ => ⟨⟨f, h2, h3⟩, fun w z => ?_, fun _ => k.qt (.inl n1), fun z => (nomatch z), fun z => ?_, fun _ z => (nomatch z), fun _ z => nomatch z⟩⟩
      · have := k.wd w z
        rw [n1] at this
        cases this
      · rcases k.mk2 z with z | z
        · rw [n1] at z
          cases z
        · have z := z.1
          rw [n1] at z
          cases z
    · rw [ed]
      have ea : a0 = .active := by
        rcases n1 with n1 | n1 <;> (rw [n1] at ha0; exact (Option.some.inj ha0).symm)
      rw [ea] at h2
      exact ⟨l.li, l.re, q1, fun v => not_mem_app (l.st v) (by simp), fun _ => ⟨⟨f, h2, h3⟩, fun _ _ => rfl, fun z => absurd z (not_quiet_active rfl), fun z => (nomatch z), fun _ => .inl rfl, fun _ z => (nomatch z), fun _ z => nomatch z⟩⟩
    · rw [ed]
      have ea : a0 = .ringing := by
        rw [n1] at ha0
        exact (Option.some.inj ha0).symm
      rw [ea] at h2
      have nw : ∀ w, Msg.word w ∉ d.up := fun w z => by
        have := k.wd w z
        rw [n1] at this
        cases this
      have nc : Msg.connect ∉ d.up := fun z => by
        rcases k.mk2 z with z | z
        · rw [n1] at z
          cases z
        · have z := z.1
          rw [n1] at z
          cases z
      refine ⟨l.li, l.re, q1, fun v => not_mem_app (l.st v) (by simp), fun _ => ⟨⟨f, h2, h3⟩, fun w z => absurd (mem_app1 z (by simp)) (nw w), fun _ => ⟨rfl, rfl⟩, fun z => (nomatch z), fun z => absurd (mem_app1 z (by simp)) nc, fun et _ => absurd n1 (k.tk et), fun _ z => nomatch z⟩⟩
    · rw [ed]
      have ea : a0 = .active := by
        rw [n1] at ha0
        exact (Option.some.inj ha0).symm
      rw [ea] at h2
      exact ⟨l.li, l.re, q1, l.st, fun _ => ⟨⟨f, h2, h3⟩, fun _ _ => rfl, fun z => absurd z (not_quiet_active rfl), fun z => (nomatch z), fun _ => .inl rfl, fun _ z => (nomatch z), fun _ z => nomatch z⟩⟩
    · rw [ed]
      have ea : a0 = .active := by
        rw [n1] at ha0
        exact (Option.some.inj ha0).symm
      rw [ea] at h2
      refine ⟨l.li, l.re, q1, l.st, fun _ => ⟨⟨f, ?_, h3⟩, fun _ _ => n1, fun z => absurd z (not_quiet_active n1), fun z => ?_, fun _ => .inl n1, fun _ z => ?_, k.tk⟩⟩
      · show sim d.now r = some f
        rw [n1]
        exact h2
      · have z : d.now = .starting := z
        rw [n1] at z
        cases z
      · have z : d.now = .ringing := z
        rw [n1] at z
        cases z
theorem Ci.of_eq {d e y : Pd} (h : Ci d y) (h1 : e.now ≠ .clearing → d.now ≠ .clearing) (h2 : e.said = d.said) (h3 : e.heard ++ words e.dn = d.heard ++ words d.dn) (h4 : words e.up = words d.up) : Ci e y := fun z1 z2 => by
  obtain ⟨k1, k2⟩ := h (h1 z1) z2
  rw [h2, h3, h4]
  exact ⟨k1, k2⟩
theorem words_app1 {l : List Msg} {x : Msg} (h : ∀ w, x ≠ .word w) : words (l ++ [x]) = words l := by
  rw [words_app]
  cases x with
  | word w => exact absurd rfl (h w)
  | _ => simp [words]
theorem words_cons {l : List Msg} {x : Msg} (h : ∀ w, x ≠ .word w) : words (x :: l) = words l := by
  cases x with
  | word w => exact absurd rfl (h w)
  | _ => rfl
theorem down_nil {d : Pd} (e : d.dn = []) : d.down = d := by
  unfold Pd.down
  rw [e]
theorem down_rel {d : Pd} {r : List Msg} (e : d.dn = .rel :: r) : d.down = d.unlink .non := by
  unfold Pd.down
  rw [e]
theorem take_flags (d : Pd) (x : Msg) : (d.take x).1.li = d.li ∧ (d.take x).1.re = d.re := by
  obtain ⟨now, rs, num, mkd, said, heard, li, re, pa, up, dn⟩ := d
  cases x <;> simp only [Pd.take, Pd.move, Pd.begin] <;> (try split) <;> first | exact ⟨rfl, rfl⟩ | (split <;> exact ⟨rfl, rfl⟩) | exact ⟨trivial, trivial⟩
theorem down_free {d : Pd} (l : Free d) : Free d.down := by
  cases e : d.dn with
  | nil =>
    rw [down_nil e]
    exact l
  | cons x r =>
    cases hl : d.li with
    | false =>
      have := (l.off hl).2.2
      rw [e] at this
      cases this
    | true =>
      by_cases hx : x = .rel
      · subst hx
        rw [down_rel e]
        exact ⟨fun _ => ⟨rfl, rfl, rfl⟩, fun z => nomatch z⟩
      cases hre : d.re with
      | true =>
        rw [down_cons e hx]
        obtain ⟨t1, t2⟩ := take_flags { d with dn := r } x
        refine ⟨fun z => ?_, fun _ z => ?_⟩
        · have z := t1.symm.trans z
          rw [hl] at z
          cases z
        · have z := t2.symm.trans z
          rw [hre] at z
          cases z
      | false =>
        rcases l.on hl hre with ⟨_, _, q⟩ | ⟨n1, n2, n3, n4, n5, n6⟩ | ⟨_, _, _, q, _⟩ | ⟨n1, n2, n3⟩
        · rw [e] at q
          cases q
        · rw [e] at n4
          obtain ⟨rfl, rfl⟩ := List.cons.inj n4
          have ed : d.down = { d with dn := [], mkd := true, up := [.setup d.num] } := by
            rw [down_cons e hx]
            simp [Pd.take, n1, n2, n3]
          rw [ed]
          refine ⟨fun z => ?_, fun _ _ => .inr (.inr (.inl ⟨n1, rfl, ⟨_, rfl⟩, rfl, n5, n6⟩))⟩
          have z := hl.symm.trans z
          cases z
        · rw [e] at q
          cases q
        · rw [down_clearing e hx n1]
          refine ⟨fun z => ?_, fun _ _ => .inr (.inr (.inr ⟨n1, (tail_rl e n2).1, n3⟩))⟩
          have z := hl.symm.trans z
          cases z
theorem down_ci {b : Bool} {d y : Pd} (l : Leg b true d) (h : Ci d y) : Ci d.down y := by
  cases e : d.dn with
  | nil =>
    rw [down_nil e]
    exact h
  | cons x r =>
    obtain ⟨q1, q2⟩ := tail_rl e l.rl
    by_cases hc : d.now = .clearing
    · rw [down_clearing e q2 hc]
      exact fun z => absurd hc z
    have k := l.ok hc
    have hw : ∀ {z : Msg}, (∀ w, z ≠ .word w) → x = z → d.heard ++ words r = d.heard ++ words d.dn := fun hz ez => by
      rw [e, ez, words_cons hz]
    rcases leg_down e q2 l hc with ⟨a, ha, n1, n2, n3, n4, ed⟩ | ⟨n1, rfl, ed⟩ | ⟨n1, rfl, ed⟩ | ⟨n1, _, _⟩ | ⟨n1, rfl, et, ed⟩ | ⟨n1, w, rfl, ed⟩
    · rw [ed]
      refine h.of_eq (fun _ => hc) rfl (hw (z := x) (fun w z => ?_) rfl) rfl
      rw [z] at ha
      cases en : d.now <;> rw [en] at ha <;> cases ha
      exact n1 en
    · rw [ed]
      exact h.of_eq (fun _ => hc) rfl (hw (z := .proceeding) (fun w z => nomatch z) rfl) rfl
    · rw [ed]
      exact h.of_eq (fun _ => hc) rfl (hw (z := .connect) (fun w z => nomatch z) rfl) (words_app1 fun w z => nomatch z)
    · exact absurd n1 (k.tk rfl)
    · rw [ed]
      exact h.of_eq (fun _ => hc) rfl (hw (z := .cdone) (fun w z => nomatch z) rfl) rfl
    · rw [ed]
      refine h.of_eq (fun _ => hc) rfl ?_ rfl
      rw [e]
      show (d.heard ++ [w]) ++ words r = d.heard ++ w :: words r
      simp
theorem Loc.down (d : Pd) : Loc d d.down := ⟨fun _ _ l => down_leg l, fun l => down_free l, fun _ _ l h => down_ci l h⟩
end Mth
end
section
set_option Elab.async false
set_option linter.all false
set_option maxRecDepth 100000
/-! Calls: taken out, put in; what the switch's actions do. -/
namespace Mth
open L2 (V)
open PySem (Addr)
/-! ### one person alone -/
theorem Good.upd1 {n : Nat} {m : M} (G : Good n m) {i : Nat} {e : Pd} (h1 : ∀ c ∈ m.cs, ∀ g, c.cd = some g → c.cr = i → CallOk c (m.pd i) (m.pd g) → CallOk c e (m.pd g)) (h2 : ∀ c ∈ m.cs, c.cd = some i → CallOk c (m.pd c.cr) (m.pd i) → CallOk c (m.pd c.cr) e)
    (h3 : i ∉ sides m.cs → Free (m.pd i) → Free e) : Good n (m.set i e) := by
  refine ⟨G.cdS, G.lt, G.nd, G.bkO, G.bkD, fun c hc g hg => ?_, fun j hj hs => ?_⟩
  · have K := G.call c hc g hg
    have ne := cr_ne_cd G hc hg
    by_cases z1 : c.cr = i
    · have z2 : g ≠ i := fun z => ne (z1.trans z.symm)
      rw [z1, set_same, set_ne _ _ z2]
      rw [z1] at K
      exact h1 c hc g hg z1 K
    · rw [set_ne _ _ z1]
      by_cases z2 : g = i
      · rw [z2, set_same]
        rw [z2] at K hg
        exact h2 c hc hg K
      · rw [set_ne _ _ z2]
        exact K
  · have K := G.free j hj hs
    by_cases z1 : j = i
    · subst z1
      rw [set_same]
      exact h3 hs K
    · rw [set_ne _ _ z1]
      exact K
/-! ### the calls but some -/
structure Rest (n : Nat) (rs : List Cl) (pd : Nat → Pd) (bk : List Bool) (X : List Nat) : Prop where
  cdS : ∀ c ∈ rs, ∃ g, c.cd = some g
  lt : ∀ i ∈ sides rs, i < n
  nd : (sides rs).Nodup
  bkO : ∀ c ∈ rs, ∀ k, c.line = some k → bk[k]? = some true
  bkD : (rs.filterMap (·.line)).Nodup
  call : ∀ c ∈ rs, ∀ g, c.cd = some g → CallOk c (pd c.cr) (pd g)
  free : ∀ i, i < n → i ∉ sides rs → i ∉ X → Free (pd i)
  dis : ∀ i ∈ X, i ∉ sides rs
theorem Good.rest0 {n : Nat} {m : M} (G : Good n m) : Rest n m.cs m.pd m.bk [] := ⟨G.cdS, G.lt, G.nd, G.bkO, G.bkD, G.call, fun i h1 h2 _ => G.free i h1 h2, fun _ h => nomatch h⟩
theorem sides_perm {a b : List Cl} (h : a.Perm b) : (sides a).Perm (sides b) := h.flatMap_right _
theorem Good.perm {n : Nat} {pd : Nat → Pd} {a b : List Cl} {bk : List Bool} (G : Good n ⟨pd, a, bk⟩) (h : a.Perm b) : Good n ⟨pd, b, bk⟩ :=
  ⟨fun c hc => G.cdS c (h.mem_iff.mpr hc), fun i hi => G.lt i ((sides_perm h).mem_iff.mpr hi), (sides_perm h).nodup_iff.mp G.nd, fun c hc => G.bkO c (h.mem_iff.mpr hc), (h.filterMap _).nodup_iff.mp G.bkD, fun c hc => G.call c (h.mem_iff.mpr hc),
    fun i hi hs => G.free i hi fun z => hs ((sides_perm h).mem_iff.mp z)⟩
theorem sides_cons {c : Cl} {g : Nat} {rs : List Cl} (e : c.cd = some g) : sides (c :: rs) = c.cr :: g :: sides rs := by
  show c.cr :: (c.cd.toList ++ sides rs) = _
  rw [e]
  rfl
theorem Good.rest {n : Nat} {m : M} (G : Good n m) {c : Cl} {rs : List Cl} {g : Nat} (h : m.cs.Perm (c :: rs)) (hg : c.cd = some g) : Rest n rs m.pd m.bk [c.cr, g] ∧ c.cr ≠ g ∧ c.cr < n ∧ g < n ∧ CallOk c (m.pd c.cr) (m.pd g) := by
  have G2 : Good n ⟨m.pd, c :: rs, m.bk⟩ := Good.perm (pd := m.pd) (bk := m.bk) G h
  have hn := G2.nd
  have hl := G2.lt
  have hf := G2.free
  dsimp only at hn hl hf
  rw [sides_cons hg] at hn hl hf
  simp only [List.nodup_cons, List.mem_cons, not_or] at hn
  have hb := G2.bkD
  dsimp only at hb
  refine ⟨⟨fun e he => G2.cdS e (List.mem_cons_of_mem _ he), fun i hi => hl i (List.mem_cons_of_mem _ (List.mem_cons_of_mem _ hi)), hn.2.2, fun e he => G2.bkO e (List.mem_cons_of_mem _ he), ?_, fun e he => G2.call e (List.mem_cons_of_mem _ he), fun i h1 h2 h3 => hf i h1 ?_, fun i hi => ?_⟩,
    hn.1.1, hl _ List.mem_cons_self, hl _ (List.mem_cons_of_mem _ List.mem_cons_self), G2.call c List.mem_cons_self g hg⟩
  · rw [List.filterMap_cons] at hb
    cases el : c.line with
    | none =>
      rw [el] at hb
      exact hb
    | some k =>
      rw [el] at hb
      exact (List.nodup_cons.mp hb).2
  · simp only [List.mem_cons, not_or]
    simp only [List.mem_cons, List.not_mem_nil, or_false, not_or] at h3
    exact ⟨h3.1, h3.2, h2⟩
  · simp only [List.mem_cons, List.not_mem_nil, or_false] at hi
    rcases hi with rfl | rfl
    · exact hn.1.2
    · exact hn.2.1
theorem Rest.calls {n : Nat} {rs : List Cl} {pd pd' : Nat → Pd} {bk : List Bool} {X Y : List Nat} (R : Rest n rs pd bk X) (hY : ∀ j, j ∉ Y → pd' j = pd j) (hd : ∀ i ∈ Y, i ∉ sides rs) : ∀ c ∈ rs, ∀ g, c.cd = some g → CallOk c (pd' c.cr) (pd' g) := fun c hc g hg => by
  rw [hY _ fun z => hd _ z (sides_cr hc), hY _ fun z => hd _ z (sides_cd hc hg)]
  exact R.call c hc g hg
/-- without a call in its place -/
theorem Rest.drop {n : Nat} {rs : List Cl} {pd pd' : Nat → Pd} {bk bk' : List Bool} {X Y : List Nat} (R : Rest n rs pd bk X) (hXY : ∀ i ∈ X, i ∈ Y) (hY : ∀ j, j ∉ Y → pd' j = pd j) (hd : ∀ i ∈ Y, i ∉ sides rs) (hf : ∀ i ∈ Y, i < n → Free (pd' i))
    (hb : ∀ c ∈ rs, ∀ k, c.line = some k → bk'[k]? = some true) : Good n ⟨pd', rs, bk'⟩ := by
  refine ⟨R.cdS, R.lt, R.nd, hb, R.bkD, R.calls hY hd, fun i h1 h2 => ?_⟩
  by_cases z : i ∈ Y
  · exact hf i z h1
  · show Free (pd' i)
    rw [hY i z]
    exact R.free i h1 h2 fun q => z (hXY i q)
/-- with a call in its place -/
theorem Rest.put {n : Nat} {rs : List Cl} {pd pd' : Nat → Pd} {bk bk' : List Bool} {X Y : List Nat} {c : Cl} {g : Nat} (R : Rest n rs pd bk X) (hXY : ∀ i ∈ X, i ∈ Y) (hY : ∀ j, j ∉ Y → pd' j = pd j) (hd : ∀ i ∈ Y, i ∉ sides rs)
    (hg : c.cd = some g) (h1 : c.cr ∈ Y) (h2 : g ∈ Y) (ne : c.cr ≠ g) (l1 : c.cr < n) (l2 : g < n) (K : CallOk c (pd' c.cr) (pd' g)) (hf : ∀ i ∈ Y, i < n → i ≠ c.cr → i ≠ g → Free (pd' i))
    (hb : ∀ e ∈ rs, ∀ k, e.line = some k → bk'[k]? = some true) (hb1 : ∀ k, c.line = some k → bk'[k]? = some true ∧ ∀ e ∈ rs, e.line ≠ some k) : Good n ⟨pd', c :: rs, bk'⟩ := by
  refine ⟨fun e he => ?_, fun i hi => ?_, ?_, fun e he k hk => ?_, ?_, fun e he u hu => ?_, fun i i1 i2 => ?_⟩
  · rcases List.mem_cons.mp he with rfl | he
    · exact ⟨g, hg⟩
    · exact R.cdS e he
  · dsimp only at hi
    rw [sides_cons hg] at hi
    rcases List.mem_cons.mp hi with rfl | hi
    · exact l1
    · rcases List.mem_cons.mp hi with rfl | hi
      · exact l2
      · exact R.lt i hi
  · dsimp only
    rw [sides_cons hg]
    simp only [List.nodup_cons, List.mem_cons, not_or]
    exact ⟨⟨ne, hd _ h1⟩, hd _ h2, R.nd⟩
  · rcases List.mem_cons.mp he with rfl | he
    · exact (hb1 k hk).1
    · exact hb e he k hk
  · dsimp only
    rw [List.filterMap_cons]
    cases el : c.line with
    | none => exact R.bkD
    | some k =>
      refine List.nodup_cons.mpr ⟨fun z => ?_, R.bkD⟩
      obtain ⟨e, he, ek⟩ := List.mem_filterMap.mp z
      exact (hb1 k el).2 e he ek
  · rcases List.mem_cons.mp he with rfl | he
    · rw [hg] at hu
      cases hu
      exact K
    · exact R.calls hY hd e he u hu
  · dsimp only at i2 ⊢
    rw [sides_cons hg] at i2
    simp only [List.mem_cons, not_or] at i2
    by_cases z : i ∈ Y
    · exact hf i z i1 i2.1 i2.2.1
    · rw [hY i z]
      exact R.free i i1 i2.2.2 fun q => z (hXY i q)
/-! ### the list of calls -/
def setC (cs : List Cl) (c : Cl) : List Cl := cs.map fun e => if e.ad = c.ad then c else e
def Ads (cs : List Cl) : Prop := (cs.map (·.ad)).Nodup
theorem Ads.uniq {cs : List Cl} (h : Ads cs) {a b : Cl} (ha : a ∈ cs) (hb : b ∈ cs) (e : a.ad = b.ad) : a = b := by
  induction cs with
  | nil => cases ha
  | cons x cs ih =>
    obtain ⟨h1, h2⟩ := List.nodup_cons.mp (show (x.ad :: cs.map (·.ad)).Nodup from h)
    have key : ∀ {y : Cl}, y ∈ cs → y.ad ≠ x.ad := fun hy z => h1 (z ▸ List.mem_map_of_mem hy)
    rcases List.mem_cons.mp ha with e1 | e1 <;> rcases List.mem_cons.mp hb with e2 | e2
    · rw [e1, e2]
    · exact absurd (e1 ▸ e).symm (key e2)
    · exact absurd (e2 ▸ e) (key e1)
    · exact ih h2 e1 e2
def others (cs : List Cl) (a : Addr) : List Cl := cs.filter fun e => decide (e.ad ≠ a)
theorem cs_perm {cs : List Cl} (h : Ads cs) {c : Cl} (hc : c ∈ cs) : cs.Perm (c :: others cs c.ad) := by
  induction cs with
  | nil => cases hc
  | cons x cs ih =>
    obtain ⟨h1, h2⟩ := List.nodup_cons.mp (show (x.ad :: cs.map (·.ad)).Nodup from h)
    by_cases e : x.ad = c.ad
    · have ex : x = c := Ads.uniq h List.mem_cons_self hc e
      subst ex
      have : others (x :: cs) x.ad = cs := by
        unfold others
        rw [List.filter_cons_of_neg (by simp), List.filter_eq_self]
        intro y hy
        exact decide_eq_true fun z => h1 (z ▸ List.mem_map_of_mem hy)
      rw [this]
    · have hc2 : c ∈ cs := by
        rcases List.mem_cons.mp hc with z | z
        · exact absurd (z ▸ rfl) e
        · exact z
      have : others (x :: cs) c.ad = x :: others cs c.ad := by
        unfold others
        rw [List.filter_cons_of_pos (by simpa using e)]
      rw [this]
      exact ((ih h2 hc2).cons x).trans (List.Perm.swap ..)
theorem setC_perm {cs : List Cl} (h : Ads cs) {c d : Cl} (hc : c ∈ cs) (e : d.ad = c.ad) : (setC cs d).Perm (d :: others cs c.ad) := by
  have p : (setC cs d).Perm (setC (c :: others cs c.ad) d) := (cs_perm h hc).map _
  have q : setC (c :: others cs c.ad) d = d :: others cs c.ad := by
    unfold setC
    rw [List.map_cons, if_pos e.symm]
    congr 1
    refine (List.map_congr_left fun y hy => ?_).trans (List.map_id _)
    have := (List.mem_filter.mp hy).2
    have ne : y.ad ≠ c.ad := of_decide_eq_true this
    rw [if_neg (e ▸ ne)]
    rfl
  exact q ▸ p
theorem others_mem {cs : List Cl} {a : Addr} {e : Cl} (h : e ∈ others cs a) : e ∈ cs ∧ e.ad ≠ a := ⟨(List.mem_filter.mp h).1, of_decide_eq_true (List.mem_filter.mp h).2⟩
theorem ads_setC {cs : List Cl} (h : Ads cs) (d : Cl) : Ads (setC cs d) := by
  unfold Ads setC
  rw [List.map_map]
  have : ((fun c : Cl => c.ad) ∘ fun e : Cl => if e.ad = d.ad then d else e) = fun c => c.ad := by
    funext e
    show (if e.ad = d.ad then d else e).ad = e.ad
    split
    · rename_i z
      exact z.symm
    · rfl
  rw [this]
  exact h
/-- the calls but the caller's: the same as the calls but this one -/
theorem drop_others {n : Nat} {m : M} (G : Good n m) (h : Ads m.cs) {c : Cl} (hc : c ∈ m.cs) : (m.cs.filter fun e => decide (e.cr ≠ c.cr)) = others m.cs c.ad := by
  refine List.filter_congr fun e he => ?_
  by_cases z : e.ad = c.ad
  · have := h.uniq he hc z
    rw [this]
    simp
  · have z2 : e.cr ≠ c.cr := fun q => z (by rw [side_uniq G.nd he hc (.inl rfl) (.inl q)])
    simp [z, z2]
/-! ### actions -/
inductive Act | tell (p : Nat) (x : Msg) | release (p : Nat) | page (p : Nat) | unpage (p : Nat)
def actP (j : Nat) (d : Pd) : Act → Pd
  | .tell i x => if i = j ∧ d.li = true ∧ d.re = false then { d with dn := d.dn ++ [x] } else d
  | .release i => if i = j ∧ d.li = true ∧ d.re = false then { d with dn := d.dn ++ [.rel], re := true } else d
  | .page i => if i = j then { d with pa := true } else d
  | .unpage i => if i = j then { d with pa := false } else d
def actsP (j : Nat) (d : Pd) (l : List Act) : Pd := l.foldl (actP j) d
def perf (m : M) (l : List Act) : M := { m with pd := fun j => actsP j (m.pd j) l }
def Act.who : Act → Nat
  | .tell p _ => p
  | .release p => p
  | .page p => p
  | .unpage p => p
theorem actP_other {j : Nat} {d : Pd} {a : Act} (h : a.who ≠ j) : actP j d a = d := by
  cases a with
  | tell p x => exact if_neg fun z => h z.1
  | release p => exact if_neg fun z => h z.1
  | page p => exact if_neg h
  | unpage p => exact if_neg h
theorem actsP_other {j : Nat} : ∀ {l : List Act} {d : Pd}, (∀ a ∈ l, a.who ≠ j) → actsP j d l = d
  | [], d, _ => rfl
  | a :: l, d, h => by
    show actsP j (actP j d a) l = d
    rw [actP_other (h a List.mem_cons_self)]
    exact actsP_other fun b hb => h b (List.mem_cons_of_mem _ hb)
theorem actsP_app {j : Nat} {d : Pd} {a b : List Act} : actsP j d (a ++ b) = actsP j (actsP j d a) b := List.foldl_append ..
def refuse (p : Nat) (c : V) : List Act := [.tell p (.disc c), .release p]
theorem tell_on {j : Nat} {d : Pd} {x : Msg} (h1 : d.li = true) (h2 : d.re = false) : actP j d (.tell j x) = { d with dn := d.dn ++ [x] } := if_pos ⟨rfl, h1, h2⟩
theorem rel_on {j : Nat} {d : Pd} (h1 : d.li = true) (h2 : d.re = false) : actP j d (.release j) = { d with dn := d.dn ++ [.rel], re := true } := if_pos ⟨rfl, h1, h2⟩
/-- whoever is linked and told the release is free -/
theorem free_re {d : Pd} (h1 : d.li = true) (h2 : d.re = true) : Free d := ⟨fun z => absurd (h1.symm.trans z) (by simp), fun _ z => absurd (h2.symm.trans z) (by simp)⟩
theorem refuse_free {j : Nat} {d : Pd} {c : V} (h1 : d.li = true) (h2 : d.re = false) : Free (actsP j d (refuse j c)) := by
  show Free (actP j (actP j d (.tell j (.disc c))) (.release j))
  rw [tell_on h1 h2, rel_on (d := { d with dn := d.dn ++ [.disc c] }) h1 h2]
  exact free_re h1 rfl
theorem perf_app {m : M} {a b : List Act} : perf m (a ++ b) = perf (perf m a) b := by
  unfold perf
  congr 1
  funext j
  exact actsP_app
end Mth
end
section
set_option Elab.async false
set_option linter.all false
set_option maxRecDepth 100000
/-! The switch's moves keep what is true. -/
namespace Mth
open L2 (V)
open PySem (Addr)
theorem actsP_cons {j : Nat} {d : Pd} {a : Act} {l : List Act} : actsP j d (a :: l) = actsP j (actP j d a) l := rfl
theorem actsP_nil {j : Nat} {d : Pd} : actsP j d [] = d := rfl
theorem sim_rel (a : Nw) : ∀ (l : List Msg) (f : Nw), sim a l = some f → (∀ b ∈ l, stp a b = some a) ∨ True := fun _ _ _ => .inr trivial
theorem stp_idle {a : Nw} {x : Msg} : stp a x ≠ some .idle := by
  cases a <;> cases x <;> simp [stp]
theorem sim_ringing : ∀ (l : List Msg) (f : Nw), sim .ringing l = some f → f = .ringing ∨ f = .active
  | [], f, h => .inl (Option.some.inj h).symm
  | x :: l, f, h => by
    rw [sim_cons] at h
    cases x with
    | cdone => exact .inr (sim_active l f h)
    | _ => cases h
theorem sim_idle : ∀ (l : List Msg) (f : Nw), sim .idle l = some f → f = .idle ∨ f = .ringing ∨ f = .active
  | [], f, h => .inl (Option.some.inj h).symm
  | x :: l, f, h => by
    rw [sim_cons] at h
    cases x with
    | setup v => exact .inr (sim_ringing l f h)
    | _ => cases h
/-- no word is on its way to a phone that is not active behind it -/
theorem sim_words : ∀ (l : List Msg) (a f : Nw), sim a l = some f → f ≠ .active → words l = []
  | [], a, f, h, k => rfl
  | x :: l, a, f, h, k => by
    rw [sim_cons] at h
    cases e : stp a x with
    | none =>
      rw [e] at h
      cases h
    | some b =>
      rw [e] at h
      rw [words_cons fun w z => ?_]
      · exact sim_words l b f h k
      · subst z
        cases a <;> cases e
        exact k (sim_active l f h)
theorem leg_tell {b t t' : Bool} {d : Pd} {x : Msg} (l : Leg b t d) (hx : x ≠ .rel) (hf : ∀ f, fit b t f → ∃ f', stp f x = some f' ∧ fit b t' f') (h3 : t' = true → d.now ≠ .clearing → (d.now = .ringing → d.mkd = true) ∧ d.now ≠ .idle) :
    Leg b t' { d with dn := d.dn ++ [x] } := by
  refine ⟨l.li, l.re, not_mem_app l.rl hx.symm, l.st, fun z => ?_⟩
  have k := l.ok z
  obtain ⟨f, h1, h2⟩ := k.sm
  obtain ⟨f', h4, h5⟩ := hf f h2
  refine ⟨⟨f', ?_, h5⟩, k.wd, k.qt, k.mk1, k.mk2, fun et en => (h3 et z).1 en, fun et => (h3 et z).2⟩
  show sim d.now (d.dn ++ [x]) = some f'
  rw [sim_app [x] _ _ _ h1, sim_cons, h4]
  rfl
/-- which calls have a person -/
def hasSide (p : Nat) (c : Cl) : Bool := decide (p = c.cr) || decide (c.cd = some p)
def fnd (cs : List Cl) (p : Nat) : Option Cl := cs.find? (hasSide p)
theorem fnd_some {cs : List Cl} {p : Nat} {c : Cl} (h : fnd cs p = some c) : c ∈ cs ∧ (p = c.cr ∨ c.cd = some p) := by
  refine ⟨List.mem_of_find?_eq_some h, ?_⟩
  have := List.find?_some h
  simpa [hasSide] using this
theorem fnd_none {cs : List Cl} {p : Nat} (h : fnd cs p = none) : p ∉ sides cs := fun z => by
  obtain ⟨c, hc, hp⟩ := side_of z
  have := List.find?_eq_none.mp h c hc
  simp [hasSide] at this
  rcases hp with hp | hp
  · exact this.1 hp
  · exact this.2 hp
theorem Good.at_ {n : Nat} {m : M} (G : Good n m) {c : Cl} (hc : c ∈ m.cs) : ∃ g, c.cd = some g ∧ c.cr ≠ g ∧ c.cr < n ∧ g < n ∧ CallOk c (m.pd c.cr) (m.pd g) := by
  obtain ⟨g, hg⟩ := G.cdS c hc
  exact ⟨g, hg, cr_ne_cd G hc hg, G.lt _ (sides_cr hc), G.lt _ (sides_cd hc hg), G.call c hc g hg⟩
theorem rest_line {n : Nat} {m : M} (G : Good n m) {c : Cl} {rs : List Cl} (hp : m.cs.Perm (c :: rs)) {k : Nat} (hk : c.line = some k) : ∀ e ∈ rs, e.line ≠ some k := fun e he z => by
  have hb := (hp.filterMap (·.line)).nodup_iff.mp G.bkD
  rw [List.filterMap_cons, hk] at hb
  exact (List.nodup_cons.mp hb).1 (List.mem_filterMap.mpr ⟨e, he, z⟩)
/-- a call in its place again, its persons' data new -/
theorem good_set {n : Nat} {m : M} (G : Good n m) (hA : Ads m.cs) {c c' : Cl} {g : Nat} (hc : c ∈ m.cs) (hg : c.cd = some g) (e1 : c'.ad = c.ad) (e2 : c'.cr = c.cr) (e3 : c'.cd = some g) (e4 : c'.line = c.line) {pd' : Nat → Pd}
    (hY : ∀ j, j ≠ c.cr → j ≠ g → pd' j = m.pd j) (K : CallOk c' (pd' c.cr) (pd' g)) : Good n ⟨pd', setC m.cs c', m.bk⟩ := by
  have hp := cs_perm hA hc
  obtain ⟨R, ne, l1, l2, _⟩ := G.rest hp hg
  refine Good.perm ?_ (setC_perm hA hc e1).symm
  refine R.put (Y := [c.cr, g]) (fun _ h => h) (fun j hj => ?_) R.dis e3 (by rw [e2]; simp) (by simp) (by rw [e2]; exact ne) (by rw [e2]; exact l1) l2 (by rw [e2]; exact K) (fun i hi _ h1 h2 => ?_) R.bkO fun k hk => ?_
  · simp only [List.mem_cons, List.not_mem_nil, or_false, not_or] at hj
    exact hY j hj.1 hj.2
  · simp only [List.mem_cons, List.not_mem_nil, or_false] at hi
    rw [e2] at h1
    rcases hi with z | z
    · exact absurd z h1
    · exact absurd z h2
  · rw [e4] at hk
    exact ⟨G.bkO c hc k hk, rest_line G hp hk⟩
theorem pd_perf {m : M} {cs : List Cl} {l : List Act} {j : Nat} : (perf { m with cs := cs } l).pd j = actsP j (m.pd j) l := rfl
theorem good_answered {n : Nat} {m : M} (G : Good n m) (hA : Ads m.cs) {c : Cl} {p : Nat} (hc : c ∈ m.cs) (hp : c.cd = some p) (hs : c.st = .looking) (h1 : (m.pd p).now = .idle) (h2 : (m.pd p).li = true) (h3 : (m.pd p).re = false) (h4 : (m.pd p).up = []) (h5 : (m.pd p).dn = []) (tick : Int) (v : V) :
    Good n (perf { m with cs := setC m.cs { c with st := .offered, since := tick } } [.tell p (.setup v)]) := by
  have K := G.call c hc p hp
  have ne := cr_ne_cd G hc hp
  refine good_set (c' := { c with st := .offered, since := tick }) G hA hc hp rfl rfl hp rfl (fun j q1 q2 => actsP_other fun a ha => ?_) ?_
  · simp only [List.mem_cons, List.not_mem_nil, or_false] at ha
    subst ha
    exact fun z => q2 z.symm
  · have z1 : actsP c.cr (m.pd c.cr) [.tell p (.setup v)] = m.pd c.cr := actsP_other fun a ha => by
      simp only [List.mem_cons, List.not_mem_nil, or_false] at ha
      subst ha
      exact fun z => ne z.symm
    have z2 : actsP p (m.pd p) [.tell p (.setup v)] = { m.pd p with dn := (m.pd p).dn ++ [.setup v] } := tell_on h2 h3
    dsimp only
    rw [z1, z2]
    have kc := K.cr
    rw [hs] at kc
    refine ⟨kc, fun _ => ⟨h2, h3, ?_, fun u => ?_, fun _ => ⟨⟨.ringing, ?_, rfl⟩, fun w z => ?_, fun z => ?_, fun z => ?_, fun z => ?_, fun z => (nomatch z), fun z => nomatch z⟩⟩, fun z => (nomatch z), fun z => nomatch z⟩
    · rw [h5]
      simp
    · rw [h4]
      simp
    · rw [h5, h1]
      rfl
    · rw [h4] at z
      cases z
    · dsimp only at z
      rw [h1] at z
      unfold quiet at z
      simp at z
    · dsimp only at z
      rw [h1] at z
      cases z
    · rw [h4] at z
      cases z
theorem good_alerting {n : Nat} {m : M} (G : Good n m) (hA : Ads m.cs) {c : Cl} {p : Nat} (hc : c ∈ m.cs) (hp : c.cd = some p) (hs : c.st = .offered) : Good n (perf { m with cs := setC m.cs { c with st := .ringing } } [.tell c.cr .alerting]) := by
  have K := G.call c hc p hp
  have ne := cr_ne_cd G hc hp
  refine good_set (c' := { c with st := .ringing }) G hA hc hp rfl rfl hp rfl (fun j q1 q2 => actsP_other fun a ha => ?_) ?_
  · simp only [List.mem_cons, List.not_mem_nil, or_false] at ha
    subst ha
    exact fun z => q1 z.symm
  · have z1 : actsP p (m.pd p) [.tell c.cr .alerting] = m.pd p := actsP_other fun a ha => by
      simp only [List.mem_cons, List.not_mem_nil, or_false] at ha
      subst ha
      exact ne
    have z2 : actsP c.cr (m.pd c.cr) [.tell c.cr .alerting] = { m.pd c.cr with dn := (m.pd c.cr).dn ++ [.alerting] } := tell_on K.cr.li K.cr.re
    rw [z1, z2]
    have kc := K.cr
    have kd := K.cd (by rw [hs]; simp)
    rw [hs] at kc kd
    refine ⟨leg_tell kc (by simp) (fun f hf => ?_) (fun z => nomatch z), fun _ => kd, fun z => (nomatch z), fun z => nomatch z⟩
    refine ⟨.alerting, ?_, .inr rfl⟩
    rcases hf with hf | hf <;> (rw [hf]; rfl)
theorem good_connect {n : Nat} {m : M} (G : Good n m) (hA : Ads m.cs) {c : Cl} {p : Nat} (hc : c ∈ m.cs) (hp : c.cd = some p) (hs : c.st = .offered ∨ c.st = .ringing) (hk : (m.pd p).now ≠ .clearing → (m.pd p).now = .active ∨ (m.pd p).now = .ringing ∧ (m.pd p).mkd = true) :
    Good n (perf { m with cs := setC m.cs { c with st := .answered } } [.tell p .cdone, .tell c.cr .connect]) := by
  have K := G.call c hc p hp
  have ne := cr_ne_cd G hc hp
  have kc := K.cr
  have kd := K.cd (by rcases hs with hs | hs <;> (rw [hs]; simp))
  have et : c.st.talk = false := by rcases hs with hs | hs <;> (rw [hs]; rfl)
  rw [et] at kc kd
  have hk2 : (m.pd p).now ≠ .clearing → (m.pd p).now = .ringing ∧ (m.pd p).mkd = true := fun z => by
    rcases hk z with q | q
    · obtain ⟨f, f1, f2⟩ := (kd.ok z).sm
      rw [q] at f1
      have f3 := sim_active _ _ f1
      rw [f3] at f2
      cases f2
    · exact q
  refine good_set (c' := { c with st := .answered }) G hA hc hp rfl rfl hp rfl (fun j q1 q2 => actsP_other fun a ha => ?_) ?_
  · simp only [List.mem_cons, List.not_mem_nil, or_false] at ha
    rcases ha with rfl | rfl
    · exact fun z => q2 z.symm
    · exact fun z => q1 z.symm
  · have z1 : actsP p (m.pd p) [.tell p .cdone, .tell c.cr .connect] = { m.pd p with dn := (m.pd p).dn ++ [.cdone] } := by
      rw [actsP_cons, tell_on kd.li kd.re, actsP_cons, actP_other (show Act.who (.tell c.cr .connect) ≠ p from ne)]
      rfl
    have z2 : actsP c.cr (m.pd c.cr) [.tell p .cdone, .tell c.cr .connect] = { m.pd c.cr with dn := (m.pd c.cr).dn ++ [.connect] } := by
      rw [actsP_cons, actP_other (show Act.who (.tell p .cdone) ≠ c.cr from fun z => ne z.symm), actsP_cons, tell_on kc.li kc.re]
      rfl
    rw [z1, z2]
    -- the caller's phone, not clearing
    have caller : (m.pd c.cr).now ≠ .clearing → quiet (m.pd c.cr).now ∧ (m.pd c.cr).now ≠ .ringing ∧ (m.pd c.cr).now ≠ .idle ∧ (m.pd c.cr).now ≠ .active ∧ words (m.pd c.cr).dn = [] := fun z => by
      obtain ⟨f, f1, f2⟩ := (kc.ok z).sm
      have f3 : f = .looking ∨ f = .alerting := f2
      have fa : f ≠ .active := by rcases f3 with q | q <;> (rw [q]; simp)
      have fw := sim_words _ _ _ f1 fa
      unfold quiet
      cases en : (m.pd c.cr).now with
      | idle =>
        rw [en] at f1
        rcases sim_idle _ _ f1 with q | q | q <;> (rw [q] at f3; simp at f3)
      | ringing =>
        rw [en] at f1
        rcases sim_ringing _ _ f1 with q | q <;> (rw [q] at f3; simp at f3)
      | active =>
        rw [en] at f1
        exact absurd (sim_active _ _ f1) fa
      | clearing => exact absurd en z
      | starting => simp [fw]
      | looking => simp [fw]
      | alerting => simp [fw]
    have nowords : ∀ {b t : Bool} {d : Pd}, LegN b t d → d.now ≠ .active → words d.up = [] := fun l z => by
      cases ew : words _ with
      | nil => rfl
      | cons w r => exact absurd (l.wd w (words_mem (by rw [ew]; exact List.mem_cons_self))) z
    refine ⟨leg_tell kc (by simp) (fun f hf => ?_) (fun _ z => ?_), fun _ => leg_tell kd (by simp) (fun f hf => ?_) (fun _ z => ?_), fun z => (nomatch z), fun _ y1 y2 => ?_⟩
    · refine ⟨.active, ?_, rfl⟩
      rcases hf with hf | hf <;> (rw [hf]; rfl)
    · obtain ⟨_, q2, q3, _⟩ := caller z
      exact ⟨fun q => absurd q q2, q3⟩
    · have hf : f = .ringing := hf
      exact ⟨.active, by rw [hf]; rfl, rfl⟩
    · obtain ⟨q1, q2⟩ := hk2 z
      exact ⟨fun _ => q2, by rw [q1]; simp⟩
    · obtain ⟨q1, q2, q3, q4, q5⟩ := caller y1
      obtain ⟨r1, r2⟩ := hk2 y2
      have a1 := (kc.ok y1).qt q1
      have a2 := (kd.ok y2).qt (by rw [r1]; unfold quiet; simp)
      have w1 := nowords (kc.ok y1) q4
      have w2 := nowords (kd.ok y2) (by rw [r1]; simp)
      obtain ⟨f, f1, f2⟩ := (kd.ok y2).sm
      have f2 : f = .ringing := f2
      have w3 := sim_words _ _ _ f1 (by rw [f2]; simp)
      dsimp only
      rw [a1.1, a1.2, a2.1, a2.2, w1, w2, words_app, words_app, w3, q5]
      exact ⟨rfl, rfl⟩
end Mth
end
section
set_option Elab.async false
set_option linter.all false
set_option maxRecDepth 100000
/-! The switch's moves, continued. -/
namespace Mth
open L2 (V)
open PySem (Addr)
theorem setC_self {cs : List Cl} (hA : Ads cs) {c : Cl} (hc : c ∈ cs) : setC cs c = cs := by
  unfold setC
  refine (List.map_congr_left fun y hy => ?_).trans (List.map_id _)
  split
  · rename_i z
    exact (hA.uniq hy hc z).symm
  · rfl
theorem bk_app {bk : List Bool} {k : Nat} {b : Bool} (h : bk[k]? = some true) : (bk ++ [b])[k]? = some true := by
  have lt : k < bk.length := (List.getElem?_eq_some_iff.mp h).1
  rw [List.getElem?_append_left lt]
  exact h
theorem good_connected {n : Nat} {m : M} (G : Good n m) (hA : Ads m.cs) {c : Cl} (hc : c ∈ m.cs) (hs : c.st = .answered) :
    Good n { m with cs := setC m.cs { c with st := .active, line := some m.bk.length }, bk := m.bk ++ [true] } := by
  obtain ⟨g, hg, ne, l1, l2, K⟩ := G.at_ hc
  have hp := cs_perm hA hc
  obtain ⟨R, _⟩ := G.rest hp hg
  have K2 : CallOk { c with st := .active, line := some m.bk.length } (m.pd c.cr) (m.pd g) := by
    have et : c.st.talk = true := by rw [hs]; rfl
    have kc := K.cr
    have kd := K.cd (by rw [hs]; simp)
    have ki := K.ci et
    rw [et] at kc kd
    exact ⟨kc, fun _ => kd, fun z => (nomatch z), fun _ => ki⟩
  refine Good.perm ?_ (setC_perm (d := { c with st := .active, line := some m.bk.length }) hA hc rfl).symm
  refine R.put (pd' := m.pd) (Y := [c.cr, g]) (c := { c with st := .active, line := some m.bk.length }) (g := g) (fun _ h => h) (fun j hj => rfl) R.dis hg (by simp) (by simp) ne l1 l2 K2 (fun i hi _ h1 h2 => ?_) (fun e he k hk => bk_app (R.bkO e he k hk)) fun k hk => ?_
  · simp only [List.mem_cons, List.not_mem_nil, or_false] at hi
    rcases hi with z | z
    · exact absurd z h1
    · exact absurd z h2
  · cases hk
    refine ⟨by simp, fun e he z => ?_⟩
    have := R.bkO e he _ z
    have lt := (List.getElem?_eq_some_iff.mp this).1
    exact absurd lt (Nat.lt_irrefl _)
/-- a call's persons have new data, the call is the same -/
theorem good_same {n : Nat} {m : M} (G : Good n m) (hA : Ads m.cs) {c : Cl} {g : Nat} (hc : c ∈ m.cs) (hg : c.cd = some g) {pd' : Nat → Pd} (hY : ∀ j, j ≠ c.cr → j ≠ g → pd' j = m.pd j) (K : CallOk c (pd' c.cr) (pd' g)) : Good n ⟨pd', m.cs, m.bk⟩ := by
  have := good_set (c' := c) G hA hc hg rfl rfl hg rfl hY K
  rw [setC_self hA hc] at this
  exact this
def other (c : Cl) (p : Nat) : Nat := if p = c.cr then c.cd.getD 0 else c.cr
/-- a word from one side to the other -/
theorem word_pair {b b' : Bool} {d e : Pd} {w : V} {r : List Msg} (hd : d.up = .word w :: r) (l : Leg b true d) (k : Leg b' true e) (h : Ci d e) : Leg b true { d with up := r } ∧ Leg b' true { e with dn := e.dn ++ [.word w] } ∧ Ci { d with up := r } { e with dn := e.dn ++ [.word w] } := by
  have sub : ∀ {y : Msg}, y ∈ r → y ∈ d.up := fun z => hd ▸ List.mem_cons_of_mem _ z
  refine ⟨⟨l.li, l.re, l.rl, fun v z => l.st v (sub z), fun z => ?_⟩, leg_tell k (by simp) (fun f hf => ?_) (fun _ z => ⟨(k.ok z).mk3 rfl, (k.ok z).tk rfl⟩), fun z1 z2 => ?_⟩
  · have q := l.ok z
    exact ⟨q.sm, fun u z => q.wd u (sub z), q.qt, q.mk1, fun z => q.mk2 (sub z), q.mk3, q.tk⟩
  · have hf : f = .active := by cases b' <;> exact hf
    exact ⟨.active, by rw [hf]; rfl, by cases b' <;> rfl⟩
  · obtain ⟨h1, h2⟩ := h z1 z2
    refine ⟨?_, h2⟩
    show d.said = e.heard ++ words (e.dn ++ [.word w]) ++ words r
    rw [h1, hd, words_app]
    simp [words]
theorem good_word {n : Nat} {m : M} (G : Good n m) (hA : Ads m.cs) {c : Cl} {p : Nat} {w : V} {r : List Msg} (hc : c ∈ m.cs) (hp : p = c.cr ∨ c.cd = some p) (ht : c.st.talk = true) (hu : (m.pd p).up = .word w :: r) :
    Good n (perf (m.set p { m.pd p with up := r }) [.tell (other c p) (.word w)]) := by
  obtain ⟨g, hg, ne, l1, l2, K⟩ := G.at_ hc
  have kc := K.cr
  have kd := K.cd fun z => by rw [z] at ht; cases ht
  have ki := K.ci ht
  rw [ht] at kc kd
  have step : ∀ (q : Nat), p ≠ q → (m.pd q).li = true → (m.pd q).re = false → (∀ j, j ≠ p → j ≠ q → (perf (m.set p { m.pd p with up := r }) [.tell q (.word w)]).pd j = m.pd j) ∧
      (perf (m.set p { m.pd p with up := r }) [.tell q (.word w)]).pd p = { m.pd p with up := r } ∧ (perf (m.set p { m.pd p with up := r }) [.tell q (.word w)]).pd q = { m.pd q with dn := (m.pd q).dn ++ [.word w] } := fun q hpq q1 q2 => by
    refine ⟨fun j j1 j2 => ?_, ?_, ?_⟩
    · show actsP j ((m.set p _).pd j) _ = _
      rw [set_ne _ _ j1, actsP_cons, actP_other (show Act.who (.tell q (.word w)) ≠ j from fun z => j2 z.symm)]
      rfl
    · show actsP p ((m.set p _).pd p) _ = _
      rw [set_same, actsP_cons, actP_other (show Act.who (.tell q (.word w)) ≠ p from fun z => hpq z.symm)]
      rfl
    · show actsP q ((m.set p _).pd q) _ = _
      rw [set_ne _ _ hpq.symm, actsP_cons, tell_on q1 q2]
      rfl
  by_cases e : p = c.cr
  · have eo : other c p = g := by
      unfold other
      rw [if_pos e, hg]
      rfl
    rw [eo]
    obtain ⟨s1, s2, s3⟩ := step g (e ▸ ne) kd.li kd.re
    rw [← e] at kc ki
    obtain ⟨w1, w2, w3⟩ := word_pair hu kc kd ki
    refine good_same G hA hc hg (pd' := (perf (m.set p { m.pd p with up := r }) [.tell g (.word w)]).pd) (fun j j1 j2 => s1 j (e ▸ j1) j2) ?_
    rw [← e, s2, s3]
    exact ⟨ht.symm ▸ w1, fun _ => ht.symm ▸ w2, fun z => (by rw [z] at ht; cases ht), fun _ => w3⟩
  · have hp2 : c.cd = some p := hp.resolve_left e
    have eg : g = p := Option.some.inj (hg.symm.trans hp2)
    subst eg
    have eo : other c g = c.cr := by
      unfold other
      rw [if_neg e]
    rw [eo]
    obtain ⟨s1, s2, s3⟩ := step c.cr e kc.li kc.re
    obtain ⟨w1, w2, w3⟩ := word_pair hu kd kc ki.symm
    refine good_same G hA hc hg (pd' := (perf (m.set g { m.pd g with up := r }) [.tell c.cr (.word w)]).pd) (fun j j1 j2 => s1 j j2 j1) ?_
    rw [s2, s3]
    exact ⟨ht.symm ▸ w2, fun _ => ht.symm ▸ w1, fun z => (by rw [z] at ht; cases ht), fun _ => w3.symm⟩
/-- a message ahead that the switch throws away -/
theorem good_pop {n : Nat} {m : M} (G : Good n m) {p : Nat} {x : Msg} {r : List Msg} (hu : (m.pd p).up = x :: r) (hs : ∀ v, x ≠ .setup v) (hw : (∀ w, x ≠ .word w) ∨ ∀ c ∈ m.cs, (p = c.cr ∨ c.cd = some p) → c.st.talk = false) : Good n (m.set p { m.pd p with up := r }) := by
  rcases hw with hw | hw
  · exact G.loc (Loc.pop hu hw hs)
  · have sub : ∀ {y : Msg}, y ∈ r → y ∈ (m.pd p).up := fun z => hu ▸ List.mem_cons_of_mem _ z
    have hl : ∀ b t, Leg b t (m.pd p) → Leg b t { m.pd p with up := r } := fun b t l => ⟨l.li, l.re, l.rl, fun v z => l.st v (sub z), fun z => by
      have q := l.ok z
      exact ⟨q.sm, fun u z => q.wd u (sub z), q.qt, q.mk1, fun z => q.mk2 (sub z), q.mk3, q.tk⟩⟩
    have hf : Free (m.pd p) → Free { m.pd p with up := r } := fun f => by
      refine ⟨fun z => ?_, fun z1 z2 => ?_⟩
      · have := (f.off z).2.1
        rw [hu] at this
        cases this
      · rcases f.on z1 z2 with ⟨_, q, _⟩ | ⟨_, _, q, _⟩ | ⟨_, _, ⟨v, q⟩, _⟩ | ⟨a1, a2, a3⟩
        · rw [hu] at q
          cases q
        · rw [hu] at q
          cases q
        · rw [hu] at q
          exact absurd (List.cons.inj q).1 (hs v)
        · refine .inr (.inr (.inr ⟨a1, a2, fun v z => a3 v ?_⟩))
          rw [hu]
          exact List.mem_of_mem_tail z
    refine G.upd1 (fun c hc g hg e K => ?_) (fun c hc e K => ?_) fun _ => hf
    · have et := hw c hc (.inl e.symm)
      exact ⟨hl _ _ K.cr, K.cd, K.lk, fun z => by rw [et] at z; cases z⟩
    · have et := hw c hc (.inr e)
      exact ⟨K.cr, fun z => hl _ _ (K.cd z), fun z => hf (K.lk z), fun z => by rw [et] at z; cases z⟩
def dropBk (bk : List Bool) : Option Nat → List Bool
  | some k => bk.set k false
  | none => bk
def dropC (m : M) (c : Cl) : M := { m with cs := m.cs.filter fun e => decide (e.cr ≠ c.cr), bk := dropBk m.bk c.line }
/-- a call is gone, its persons are free -/
theorem good_drop {n : Nat} {m : M} (G : Good n m) (hA : Ads m.cs) {c : Cl} {g : Nat} (hc : c ∈ m.cs) (hg : c.cd = some g) {pd' : Nat → Pd} (hY : ∀ j, j ≠ c.cr → j ≠ g → pd' j = m.pd j) (f1 : Free (pd' c.cr)) (f2 : Free (pd' g)) : Good n { dropC m c with pd := pd' } := by
  have hp := cs_perm hA hc
  obtain ⟨R, ne, l1, l2, _⟩ := G.rest hp hg
  show Good n ⟨pd', m.cs.filter fun e => decide (e.cr ≠ c.cr), dropBk m.bk c.line⟩
  rw [drop_others G hA hc]
  refine R.drop (Y := [c.cr, g]) (fun _ h => h) (fun j hj => ?_) R.dis (fun i hi _ => ?_) fun e he k hk => ?_
  · simp only [List.mem_cons, List.not_mem_nil, or_false, not_or] at hj
    exact hY j hj.1 hj.2
  · simp only [List.mem_cons, List.not_mem_nil, or_false] at hi
    rcases hi with rfl | rfl
    · exact f1
    · exact f2
  · have b := R.bkO e he k hk
    cases el : c.line with
    | none => exact b
    | some u =>
      have nu : u ≠ k := fun z => by
        subst z
        exact rest_line G hp el e he hk
      show (m.bk.set u false)[k]? = some true
      rw [List.getElem?_set_ne nu]
      exact b
def clr (c : Cl) (q : Nat) (cause : V) : List Act := if c.cd = some q ∧ c.st = .looking then [.unpage q] else refuse q cause
theorem clr_who {c : Cl} {q : Nat} {cause : V} : ∀ a ∈ clr c q cause, a.who = q := fun a ha => by
  unfold clr at ha
  split at ha
  · simp only [List.mem_cons, List.not_mem_nil, or_false] at ha
    subst ha
    rfl
  · simp only [refuse, List.mem_cons, List.not_mem_nil, or_false] at ha
    rcases ha with rfl | rfl <;> rfl
/-- the other side is told, or its page is taken back -/
theorem clr_free {n : Nat} {m : M} (G : Good n m) {c : Cl} {g q : Nat} (hc : c ∈ m.cs) (hg : c.cd = some g) (hq : q = c.cr ∨ q = g) (cause : V) : Free (actsP q (m.pd q) (clr c q cause)) := by
  have K := G.call c hc g hg
  have ne := cr_ne_cd G hc hg
  unfold clr
  split
  · rename_i z
    have eq : q = g := Option.some.inj (z.1.symm.trans hg)
    rw [eq]
    have e : actsP g (m.pd g) [.unpage g] = { m.pd g with pa := false } := if_pos rfl
    rw [e]
    exact (Loc.page _ _).free (K.lk z.2)
  · rename_i z
    rcases hq with hq | hq
    · rw [hq]
      exact refuse_free K.cr.li K.cr.re
    · rw [hq] at z ⊢
      have kd := K.cd fun q => z ⟨hg, q⟩
      exact refuse_free kd.li kd.re
/-- one's part is a leg -/
def isLeg (c : Cl) (p : Nat) : Prop := p = c.cr ∨ c.st ≠ .looking
theorem leg_of {n : Nat} {m : M} (G : Good n m) {c : Cl} {p : Nat} (hc : c ∈ m.cs) (hp : p = c.cr ∨ c.cd = some p) (hl : isLeg c p) : ∃ b, Leg b c.st.talk (m.pd p) := by
  rcases hp with hp | hp
  · obtain ⟨g, hg⟩ := G.cdS c hc
    rw [hp]
    exact ⟨true, (G.call c hc g hg).cr⟩
  · rcases hl with hl | hl
    · obtain ⟨g, hg⟩ := G.cdS c hc
      rw [hl]
      exact ⟨true, (G.call c hc g hg).cr⟩
    · exact ⟨false, (G.call c hc p hp).cd hl⟩
theorem other_side {c : Cl} {p g : Nat} (hg : c.cd = some g) (ne : c.cr ≠ g) (hp : p = c.cr ∨ c.cd = some p) : (p = c.cr ∧ other c p = g) ∨ (p = g ∧ other c p = c.cr) := by
  unfold other
  by_cases e : p = c.cr
  · left
    rw [if_pos e, hg]
    exact ⟨e, rfl⟩
  · right
    rw [if_neg e]
    exact ⟨(Option.some.inj (hg.symm.trans (hp.resolve_left e))).symm, rfl⟩
/-- one side goes, with its data new and free; the other side is told -/
theorem good_gone {n : Nat} {m : M} (G : Good n m) (hA : Ads m.cs) {c : Cl} {p : Nat} (hc : c ∈ m.cs) (hp : p = c.cr ∨ c.cd = some p) (cause : V) {e : Pd} (he : Free e) : Good n (perf (dropC (m.set p e) c) (clr c (other c p) cause)) := by
  obtain ⟨g, hg, ne, l1, l2, K⟩ := G.at_ hc
  have e1 : dropC (m.set p e) c = { dropC m c with pd := (m.set p e).pd } := rfl
  have ho := other_side hg ne hp
  have npo : other c p ≠ p := by
    rcases ho with ⟨q1, q2⟩ | ⟨q1, q2⟩
    · rw [q2, q1]
      exact ne.symm
    · rw [q2, q1]
      exact ne
  have hpd : ∀ j, (perf (dropC (m.set p e) c) (clr c (other c p) cause)).pd j = if j = p then e else if j = other c p then actsP j (m.pd j) (clr c (other c p) cause) else m.pd j := fun j => by
    show actsP j ((m.set p e).pd j) (clr c (other c p) cause) = _
    by_cases j1 : j = p
    · rw [if_pos j1, j1, set_same, actsP_other fun a ha => by rw [clr_who a ha]; exact npo]
    · rw [if_neg j1, set_ne _ _ j1]
      by_cases j2 : j = other c p
      · rw [if_pos j2]
      · rw [if_neg j2, actsP_other fun a ha => by rw [clr_who a ha]; exact fun z => j2 z.symm]
  have fo : Free (actsP (other c p) (m.pd (other c p)) (clr c (other c p) cause)) := clr_free G hc hg (by rcases ho with ⟨_, q⟩ | ⟨_, q⟩ <;> simp [q]) cause
  have main := good_drop G hA hc hg (pd' := (perf (dropC (m.set p e) c) (clr c (other c p) cause)).pd) (fun j j1 j2 => ?_) ?_ ?_
  · exact main
  · rw [hpd]
    rcases ho with ⟨q1, q2⟩ | ⟨q1, q2⟩
    · rw [if_neg (q1 ▸ j1), if_neg (q2 ▸ j2)]
    · rw [if_neg (q1 ▸ j2), if_neg (q2 ▸ j1)]
  · rw [hpd]
    rcases ho with ⟨q1, q2⟩ | ⟨q1, q2⟩
    · rw [if_pos q1.symm]
      exact he
    · rw [if_neg (by rw [q1]; exact ne), if_pos q2.symm, ← q2]
      exact fo
  · rw [hpd]
    rcases ho with ⟨q1, q2⟩ | ⟨q1, q2⟩
    · rw [if_neg (by rw [q1]; exact ne.symm), if_pos q2.symm, ← q2]
      exact fo
    · rw [if_pos q1.symm]
      exact he
end Mth
end
section
set_option Elab.async false
set_option linter.all false
set_option maxRecDepth 100000
/-! Disconnect, lost, start, not reached. -/
namespace Mth
open L2 (V)
open PySem (Addr)
theorem perf_one {m : M} {p : Nat} {a : Act} {e : Pd} (hw : a.who = p) (h : actP p (m.pd p) a = e) : perf m [a] = m.set p e := by
  unfold perf M.set
  congr 1
  funext j
  by_cases z : j = p
  · rw [if_pos z, z]
    exact h
  · rw [if_neg z, actsP_cons, actP_other (by rw [hw]; exact fun q => z q.symm)]
    rfl
theorem good_free {n : Nat} {m : M} (G : Good n m) {p : Nat} (hn : ∀ c ∈ m.cs, (p = c.cr ∨ c.cd = some p) → ¬ isLeg c p) {e : Pd} (he : Free e) : Good n (m.set p e) := by
  refine G.upd1 (fun c hc g hg z K => ?_) (fun c hc z K => ?_) fun _ _ => he
  · exact absurd (.inl z.symm) (hn c hc (.inl z.symm))
  · have nl := hn c hc (.inr z)
    have s : c.st = .looking := Classical.byContradiction fun q => nl (.inr q)
    exact ⟨K.cr, fun q => absurd s q, fun _ => he, fun q => by rw [s] at q; cases q⟩
theorem perf_rel {m : M} {p : Nat} (h1 : (m.pd p).li = true) (h2 : (m.pd p).re = false) : perf m [.release p] = m.set p { m.pd p with dn := (m.pd p).dn ++ [.rel], re := true } := perf_one (p := p) rfl (rel_on h1 h2)
theorem perf_refuse {m : M} {p : Nat} {c : V} (h1 : (m.pd p).li = true) (h2 : (m.pd p).re = false) : perf m (refuse p c) = m.set p { m.pd p with dn := (m.pd p).dn ++ [.disc c] ++ [.rel], re := true } := by
  unfold perf M.set
  congr 1
  funext j
  by_cases z : j = p
  · rw [if_pos z, z]
    show actP p (actP p (m.pd p) (.tell p (.disc c))) (.release p) = _
    rw [tell_on h1 h2]
    exact rel_on (d := { m.pd p with dn := (m.pd p).dn ++ [.disc c] }) h1 h2
  · rw [if_neg z]
    refine actsP_other fun a ha => ?_
    simp only [refuse, List.mem_cons, List.not_mem_nil, or_false] at ha
    rcases ha with rfl | rfl <;> exact fun q => z q.symm
theorem set_set (m : M) (p : Nat) (d e : Pd) : (m.set p d).set p e = m.set p e := by
  unfold M.set
  congr 1
  funext j
  by_cases z : j = p
  · rw [if_pos z, if_pos z]
  · rw [if_neg z, if_neg z]
    exact if_neg z
/-- hanging up, not in a call -/
theorem good_disc0 {n : Nat} {m : M} (G : Good n m) {p : Nat} (h1 : (m.pd p).li = true) (h2 : (m.pd p).re = false) (hn : ∀ c ∈ m.cs, (p = c.cr ∨ c.cd = some p) → ¬ isLeg c p) : Good n (perf m [.release p]) := by
  rw [perf_rel h1 h2]
  exact good_free G hn (free_re h1 rfl)
theorem good_disc {n : Nat} {m : M} (G : Good n m) (hA : Ads m.cs) {c : Cl} {p : Nat} (h1 : (m.pd p).li = true) (h2 : (m.pd p).re = false) (hc : c ∈ m.cs) (hp : p = c.cr ∨ c.cd = some p) (cause : V) : Good n (perf (dropC m c) (.release p :: clr c (other c p) cause)) := by
  have e : perf (dropC m c) (.release p :: clr c (other c p) cause) = perf (dropC (m.set p { m.pd p with dn := (m.pd p).dn ++ [.rel], re := true }) c) (clr c (other c p) cause) := by
    show perf (perf (dropC m c) [.release p]) _ = _
    have : perf (dropC m c) [.release p] = dropC (perf m [.release p]) c := rfl
    rw [this, perf_rel h1 h2]
  rw [e]
  exact good_gone G hA hc hp cause (free_re h1 rfl)
/-- a call is asked for, in vain -/
theorem good_refuse {n : Nat} {m : M} (G : Good n m) {p : Nat} (h1 : (m.pd p).li = true) (h2 : (m.pd p).re = false) (hn : ∀ c ∈ m.cs, (p = c.cr ∨ c.cd = some p) → ¬ isLeg c p) (cause : V) : Good n (perf m (refuse p cause)) := by
  rw [perf_refuse h1 h2]
  exact good_free G hn (free_re h1 rfl)
/-- who asks for a call is free, with this ahead -/
theorem setup_free {n : Nat} {m : M} (G : Good n m) {p : Nat} {v : V} {r : List Msg} (hu : (m.pd p).up = .setup v :: r) : ∀ c ∈ m.cs, (p = c.cr ∨ c.cd = some p) → ¬ isLeg c p := fun c hc hp hl => by
  obtain ⟨b, l⟩ := leg_of G hc hp hl
  exact l.st v (by rw [hu]; exact List.mem_cons_self)
theorem free_of {n : Nat} {m : M} (G : Good n m) {p : Nat} (hlt : p < n) (hn : ∀ c ∈ m.cs, (p = c.cr ∨ c.cd = some p) → ¬ isLeg c p) : Free (m.pd p) := by
  by_cases hs : p ∈ sides m.cs
  · obtain ⟨c, hc, hp⟩ := side_of hs
    have nl := hn c hc hp
    have s : c.st = .looking := Classical.byContradiction fun q => nl (.inr q)
    rcases hp with hp | hp
    · exact absurd (.inl hp) nl
    · exact (G.call c hc p hp).lk s
  · exact G.free p hlt hs
/-- the ask is thrown away -/
theorem good_popsetup {n : Nat} {m : M} (G : Good n m) {p : Nat} {v : V} {r : List Msg} (hlt : p < n) (hu : (m.pd p).up = .setup v :: r) (h1 : (m.pd p).li = true) (h2 : (m.pd p).re = false) (cause : V) : Good n (perf (m.set p { m.pd p with up := r }) (refuse p cause)) := by
  have hn := setup_free G hu
  have e : perf (m.set p { m.pd p with up := r }) (refuse p cause) = m.set p { m.pd p with up := r, dn := (m.pd p).dn ++ [.disc cause] ++ [.rel], re := true } := by
    rw [perf_refuse (by rw [set_same]; exact h1) (by rw [set_same]; exact h2), set_set, set_same]
  rw [e]
  exact good_free G hn (free_re h1 rfl)
/-- a call is begun -/
theorem good_start {n : Nat} {m : M} (G : Good n m) {p g : Nat} {v : V} {r : List Msg} (hlt : p < n) (hu : (m.pd p).up = .setup v :: r) (h1 : (m.pd p).li = true) (h2 : (m.pd p).re = false) (hp : p ∉ sides m.cs) (hg : g < n) (hgs : g ∉ sides m.cs) (ne : g ≠ p) (a : Addr) (hops : Int) :
    Good n (perf { m.set p { m.pd p with up := r } with cs := m.cs ++ [⟨a, p, some g, .looking, hops, 0, none⟩] } [.tell p .proceeding, .page g]) := by
  have fp := G.free p hlt hp
  have fg := G.free g hg hgs
  have e1 : actsP p ((m.set p { m.pd p with up := r }).pd p) [.tell p .proceeding, .page g] = { m.pd p with up := r, dn := (m.pd p).dn ++ [.proceeding] } := by
    rw [set_same, actsP_cons, tell_on (d := { m.pd p with up := r }) h1 h2, actsP_cons, actP_other (show Act.who (.page g) ≠ p from ne)]
    rfl
  have e2 : actsP g ((m.set p { m.pd p with up := r }).pd g) [.tell p .proceeding, .page g] = { m.pd g with pa := true } := by
    rw [set_ne _ _ ne, actsP_cons, actP_other (show Act.who (.tell p .proceeding) ≠ g from fun z => ne z.symm)]
    exact if_pos rfl
  have main := G.rest0.put (pd' := fun j => actsP j ((m.set p { m.pd p with up := r }).pd j) [.tell p .proceeding, .page g]) (bk' := m.bk) (Y := [p, g]) (c := ⟨a, p, some g, .looking, hops, 0, none⟩) (g := g) (fun _ h => nomatch h) (fun j hj => ?_) (fun i hi => ?_) rfl (by simp) (by simp) (fun z => ne z.symm) hlt hg ?_ (fun i hi _ i1 i2 => ?_) G.bkO (fun k hk => nomatch hk)
  · exact main.perm (List.perm_append_comm (l₁ := [_]) (l₂ := m.cs))
  · simp only [List.mem_cons, List.not_mem_nil, or_false, not_or] at hj
    rw [set_ne _ _ hj.1]
    refine actsP_other fun a ha => ?_
    simp only [List.mem_cons, List.not_mem_nil, or_false] at ha
    rcases ha with rfl | rfl
    · exact fun z => hj.1 z.symm
    · exact fun z => hj.2 z.symm
  · simp only [List.mem_cons, List.not_mem_nil, or_false] at hi
    rcases hi with rfl | rfl
    · exact hp
    · exact hgs
  · dsimp only
    rw [e1, e2]
    refine ⟨⟨h1, h2, ?_, fun u z => ?_, fun z => ?_⟩, fun z => absurd rfl z, fun _ => (Loc.page _ _).free fg, fun z => nomatch z⟩
    · exact not_mem_app (freeL_rel (fp.on h1 h2)) (by simp)
    · rcases fp.on h1 h2 with ⟨_, q, _⟩ | ⟨_, _, q, _⟩ | ⟨_, _, ⟨w, q⟩, _⟩ | ⟨_, _, q⟩
      · rw [hu] at q
        cases q
      · rw [hu] at q
        cases q
      · rw [hu] at q
        rw [(List.cons.inj q).2] at z
        cases z
      · exact q u (by rw [hu]; exact z)
    · rcases fp.on h1 h2 with ⟨_, q, _⟩ | ⟨_, _, q, _⟩ | ⟨q1, q2, ⟨w, q3⟩, q4, q5, q6⟩ | ⟨q, _⟩
      · rw [hu] at q
        cases q
      · rw [hu] at q
        cases q
      · rw [hu] at q3
        have er := (List.cons.inj q3).2
        refine ⟨⟨.looking, ?_, .inl rfl⟩, fun u y => ?_, fun _ => ⟨q5, q6⟩, fun _ => q2, fun y => ?_, fun y => (nomatch y), fun y => nomatch y⟩
        · dsimp only
          rw [q1, q4]
          rfl
        · dsimp only at y
          rw [er] at y
          cases y
        · dsimp only at y
          rw [er] at y
          cases y
      · exact absurd q z
  · simp only [List.mem_cons, List.not_mem_nil, or_false] at hi
    rcases hi with z | z
    · exact absurd z i1
    · exact absurd z i2
/-- the called one is not reached: the call ends -/
theorem good_end {n : Nat} {m : M} (G : Good n m) (hA : Ads m.cs) {c : Cl} {g : Nat} (hc : c ∈ m.cs) (hg : c.cd = some g) {ext : List Act} (hw : ∀ a ∈ ext, a.who = g) (hf : ∀ b, Free (actsP g { m.pd g with pa := b } ext)) (cause : V) : Good n (perf (dropC m c) (refuse c.cr cause ++ ext)) := by
  have K := G.call c hc g hg
  have ne := cr_ne_cd G hc hg
  have main := good_drop G hA hc hg (pd' := fun j => actsP j (m.pd j) (refuse c.cr cause ++ ext)) (fun j j1 j2 => ?_) ?_ ?_
  · exact main
  · refine actsP_other fun a ha => ?_
    rcases List.mem_append.mp ha with ha | ha
    · simp only [refuse, List.mem_cons, List.not_mem_nil, or_false] at ha
      rcases ha with rfl | rfl <;> exact fun z => j1 z.symm
    · rw [hw a ha]
      exact fun z => j2 z.symm
  · rw [actsP_app]
    have : actsP c.cr (actsP c.cr (m.pd c.cr) (refuse c.cr cause)) ext = actsP c.cr (m.pd c.cr) (refuse c.cr cause) := actsP_other fun a ha => by rw [hw a ha]; exact ne.symm
    rw [this]
    exact refuse_free K.cr.li K.cr.re
  · rw [actsP_app]
    have : actsP g (m.pd g) (refuse c.cr cause) = m.pd g := actsP_other fun a ha => by
      simp only [refuse, List.mem_cons, List.not_mem_nil, or_false] at ha
      rcases ha with rfl | rfl <;> exact ne
    rw [this]
    exact hf (m.pd g).pa
/-- the called one is not reached: another is -/
theorem good_divert {n : Nat} {m : M} (G : Good n m) (hA : Ads m.cs) {c : Cl} {g u : Nat} (hc : c ∈ m.cs) (hg : c.cd = some g) (ht : c.st.talk = false) {ext : List Act} (hw : ∀ a ∈ ext, a.who = g) (hf : ∀ b, Free (actsP g { m.pd g with pa := b } ext))
    (hu : u < n) (hus : u ∉ sides (others m.cs c.ad)) (une : u ≠ c.cr) (hops : Int) : Good n (perf { m with cs := setC m.cs { c with cd := some u, st := .looking, hops := hops } } (.page u :: ext)) := by
  have hp := cs_perm hA hc
  obtain ⟨R, ne, l1, l2, K⟩ := G.rest hp hg
  have kc := K.cr
  rw [ht] at kc
  refine Good.perm ?_ (setC_perm (d := { c with cd := some u, st := .looking, hops := hops }) hA hc rfl).symm
  have hpd : ∀ j, actsP j (m.pd j) (.page u :: ext) = if j = g then actsP g { m.pd g with pa := if u = g then true else (m.pd g).pa } ext else if j = u then { m.pd u with pa := true } else m.pd j := fun j => by
    rw [actsP_cons]
    by_cases z : j = g
    · rw [if_pos z, z]
      congr 1
      show (if u = g then _ else _) = _
      split <;> rfl
    · rw [if_neg z]
      have : ∀ d, actsP j d ext = d := fun d => actsP_other fun a ha => by rw [hw a ha]; exact fun q => z q.symm
      rw [this]
      by_cases q : j = u
      · rw [if_pos q, q]
        exact if_pos rfl
      · rw [if_neg q]
        exact if_neg fun y => q y.symm
  have fu : Free (actsP u (m.pd u) (.page u :: ext)) := by
    rw [hpd]
    by_cases z : u = g
    · rw [if_pos z]
      exact hf _
    · rw [if_neg z, if_pos rfl]
      refine (Loc.page _ _).free (R.free u hu hus ?_)
      simp only [List.mem_cons, List.not_mem_nil, or_false, not_or]
      exact ⟨une, z⟩
  refine R.put (pd' := fun j => actsP j (m.pd j) (.page u :: ext)) (Y := [c.cr, g, u]) (c := { c with cd := some u, st := .looking, hops := hops }) (g := u) (fun i hi => ?_) (fun j hj => ?_) (fun i hi => ?_) rfl (by simp) (by simp) une.symm l1 hu ?_ (fun i hi _ i1 i2 => ?_) R.bkO fun k hk => ⟨G.bkO c hc k hk, rest_line G hp hk⟩
  · simp only [List.mem_cons, List.not_mem_nil, or_false] at hi ⊢
    rcases hi with z | z
    · exact .inl z
    · exact .inr (.inl z)
  · simp only [List.mem_cons, List.not_mem_nil, or_false, not_or] at hj
    rw [hpd, if_neg hj.2.1, if_neg hj.2.2]
  · simp only [List.mem_cons, List.not_mem_nil, or_false] at hi
    rcases hi with z | z | z
    · exact R.dis i (by simp [z])
    · exact R.dis i (by simp [z])
    · rw [z]
      exact hus
  · dsimp only
    have ec : actsP c.cr (m.pd c.cr) (.page u :: ext) = m.pd c.cr := by rw [hpd, if_neg ne, if_neg une.symm]
    rw [ec]
    exact ⟨kc, fun z => absurd rfl z, fun _ => fu, fun z => nomatch z⟩
  · simp only [List.mem_cons, List.not_mem_nil, or_false] at hi
    rcases hi with z | z | z
    · exact absurd z i1
    · rw [hpd, if_pos z]
      exact hf _
    · exact absurd z i2
end Mth
end
section
set_option Elab.async false
set_option linter.all false
set_option maxRecDepth 100000
/-! The text by places. -/
namespace Tx
open PySem L2
def top (i : Nat) : Stmt := PySem.Challenge.pw_mobileair_k70_whole_words_in_order.main.body.getD i (.Pass ⟨0, 0, 0, 0⟩)
abbrev s_NoSuch_init : Stmt := inClass (top 3) 0
abbrev n_NoSuch_init : List Str := ["self", "what", "number"]
theorem sc_NoSuch_init : FnScope n_NoSuch_init ["self", "what", "number"] (defScope s_NoSuch_init) := ⟨rfl, rfl, rfl, by decide +kernel, rfl, by decide +kernel, by decide +kernel⟩
abbrev s_NotNow_init : Stmt := inClass (top 4) 0
abbrev n_NotNow_init : List Str := ["self", "what"]
theorem sc_NotNow_init : FnScope n_NotNow_init ["self", "what"] (defScope s_NotNow_init) := ⟨rfl, rfl, rfl, by decide +kernel, rfl, by decide +kernel, by decide +kernel⟩
abbrev s_Book_init : Stmt := inClass (top 6) 0
abbrev n_Book_init : List Str := ["self"]
theorem sc_Book_init : FnScope n_Book_init ["self"] (defScope s_Book_init) := ⟨rfl, rfl, rfl, by decide +kernel, rfl, by decide +kernel, by decide +kernel⟩
abbrev s_Book_begin : Stmt := inClass (top 6) 1
abbrev n_Book_begin : List Str := ["self", "caller", "called", "tick"]
theorem sc_Book_begin : FnScope n_Book_begin ["self", "caller", "called", "tick"] (defScope s_Book_begin) := ⟨rfl, rfl, rfl, by decide +kernel, rfl, by decide +kernel, by decide +kernel⟩
abbrev s_Book_end : Stmt := inClass (top 6) 2
abbrev n_Book_end : List Str := ["self", "line", "tick", "cause", "caller", "called", "began", "ended", "_"]
theorem sc_Book_end : FnScope n_Book_end ["self", "line", "tick", "cause"] (defScope s_Book_end) := ⟨rfl, rfl, rfl, by decide +kernel, rfl, by decide +kernel, by decide +kernel⟩
abbrev s_rule_for : Stmt := top 10
abbrev n_rule_for : List Str := ["home", "person", "caller", "busy"]
theorem sc_rule_for : FnScope n_rule_for ["home", "person", "caller", "busy"] (defScope s_rule_for) := ⟨rfl, rfl, rfl, by decide +kernel, rfl, by decide +kernel, by decide +kernel⟩
abbrev s_find_goal : Stmt := top 11
abbrev n_find_goal : List Str := ["home", "number", "caller", "busy", "hops", "person", "kind", "cause"]
theorem sc_find_goal : FnScope n_find_goal ["home", "number", "caller", "busy", "hops"] (defScope s_find_goal) := ⟨rfl, rfl, rfl, by decide +kernel, rfl, by decide +kernel, by decide +kernel⟩
abbrev s_Call_init : Stmt := inClass (top 13) 0
abbrev n_Call_init : List Str := ["self", "caller", "called", "hops"]
theorem sc_Call_init : FnScope n_Call_init ["self", "caller", "called", "hops"] (defScope s_Call_init) := ⟨rfl, rfl, rfl, by decide +kernel, rfl, by decide +kernel, by decide +kernel⟩
abbrev s_Call_other : Stmt := inClass (top 13) 1
abbrev n_Call_other : List Str := ["self", "person"]
theorem sc_Call_other : FnScope n_Call_other ["self", "person"] (defScope s_Call_other) := ⟨rfl, rfl, rfl, by decide +kernel, rfl, by decide +kernel, by decide +kernel⟩
abbrev s_refuse : Stmt := top 14
abbrev n_refuse : List Str := ["person", "cause"]
theorem sc_refuse : FnScope n_refuse ["person", "cause"] (defScope s_refuse) := ⟨rfl, rfl, rfl, by decide +kernel, rfl, by decide +kernel, by decide +kernel⟩
abbrev s_Switch_init : Stmt := inClass (top 15) 0
abbrev n_Switch_init : List Str := ["self", "home"]
theorem sc_Switch_init : FnScope n_Switch_init ["self", "home"] (defScope s_Switch_init) := ⟨rfl, rfl, rfl, by decide +kernel, rfl, by decide +kernel, by decide +kernel⟩
abbrev s_Switch_find : Stmt := inClass (top 15) 1
abbrev n_Switch_find : List Str := ["self", "person", "call"]
theorem sc_Switch_find : FnScope n_Switch_find ["self", "person"] (defScope s_Switch_find) := ⟨rfl, rfl, rfl, by decide +kernel, rfl, by decide +kernel, by decide +kernel⟩
abbrev s_Switch_called_in : Stmt := inClass (top 15) 2
abbrev n_Switch_called_in : List Str := ["self", "person", "stages", "call"]
theorem sc_Switch_called_in : FnScope n_Switch_called_in ["self", "person", "stages"] (defScope s_Switch_called_in) := ⟨rfl, rfl, rfl, by decide +kernel, rfl, by decide +kernel, by decide +kernel⟩
abbrev s_Switch_sides : Stmt := inClass (top 15) 3
abbrev n_Switch_sides : List Str := ["self", "found", "call"]
theorem sc_Switch_sides : FnScope n_Switch_sides ["self"] (defScope s_Switch_sides) := ⟨rfl, rfl, rfl, by decide +kernel, rfl, by decide +kernel, by decide +kernel⟩
abbrev s_Switch_calls : Stmt := inClass (top 15) 4
abbrev n_Switch_calls : List Str := ["self", "call"]
theorem sc_Switch_calls : FnScope n_Switch_calls ["self"] (defScope s_Switch_calls) := ⟨rfl, rfl, rfl, by decide +kernel, rfl, by decide +kernel, by decide +kernel⟩
abbrev s_Switch_is_leg : Stmt := inClass (top 15) 6
abbrev n_Switch_is_leg : List Str := ["self", "person", "call"]
theorem sc_Switch_is_leg : FnScope n_Switch_is_leg ["self", "person"] (defScope s_Switch_is_leg) := ⟨rfl, rfl, rfl, by decide +kernel, rfl, by decide +kernel, by decide +kernel⟩
abbrev s_Switch_start : Stmt := inClass (top 15) 7
abbrev n_Switch_start : List Str := ["self", "person", "number", "linked", "tick", "goal", "cause", "hops"]
theorem sc_Switch_start : FnScope n_Switch_start ["self", "person", "number", "linked", "tick"] (defScope s_Switch_start) := ⟨rfl, rfl, rfl, by decide +kernel, rfl, by decide +kernel, by decide +kernel⟩
abbrev s_Switch_answered : Stmt := inClass (top 15) 8
abbrev n_Switch_answered : List Str := ["self", "person", "tick", "call"]
theorem sc_Switch_answered : FnScope n_Switch_answered ["self", "person", "tick"] (defScope s_Switch_answered) := ⟨rfl, rfl, rfl, by decide +kernel, rfl, by decide +kernel, by decide +kernel⟩
abbrev s_Switch_alerting : Stmt := inClass (top 15) 9
abbrev n_Switch_alerting : List Str := ["self", "person", "call"]
theorem sc_Switch_alerting : FnScope n_Switch_alerting ["self", "person"] (defScope s_Switch_alerting) := ⟨rfl, rfl, rfl, by decide +kernel, rfl, by decide +kernel, by decide +kernel⟩
abbrev s_Switch_connect : Stmt := inClass (top 15) 10
abbrev n_Switch_connect : List Str := ["self", "person", "call"]
theorem sc_Switch_connect : FnScope n_Switch_connect ["self", "person"] (defScope s_Switch_connect) := ⟨rfl, rfl, rfl, by decide +kernel, rfl, by decide +kernel, by decide +kernel⟩
abbrev s_Switch_connected : Stmt := inClass (top 15) 11
abbrev n_Switch_connected : List Str := ["self", "person", "tick", "call"]
theorem sc_Switch_connected : FnScope n_Switch_connected ["self", "person", "tick"] (defScope s_Switch_connected) := ⟨rfl, rfl, rfl, by decide +kernel, rfl, by decide +kernel, by decide +kernel⟩
abbrev s_Switch_word : Stmt := inClass (top 15) 12
abbrev n_Switch_word : List Str := ["self", "person", "octets", "call"]
theorem sc_Switch_word : FnScope n_Switch_word ["self", "person", "octets"] (defScope s_Switch_word) := ⟨rfl, rfl, rfl, by decide +kernel, rfl, by decide +kernel, by decide +kernel⟩
abbrev s_Switch_clear : Stmt := inClass (top 15) 13
abbrev n_Switch_clear : List Str := ["self", "call", "person", "cause"]
theorem sc_Switch_clear : FnScope n_Switch_clear ["self", "call", "person", "cause"] (defScope s_Switch_clear) := ⟨rfl, rfl, rfl, by decide +kernel, rfl, by decide +kernel, by decide +kernel⟩
abbrev s_Switch_drop : Stmt := inClass (top 15) 14
abbrev n_Switch_drop : List Str := ["self", "call", "tick", "cause", "other"]
theorem sc_Switch_drop : FnScope n_Switch_drop ["self", "call", "tick", "cause"] (defScope s_Switch_drop) := ⟨rfl, rfl, rfl, by decide +kernel, rfl, by decide +kernel, by decide +kernel⟩
abbrev s_Switch_leave : Stmt := inClass (top 15) 15
abbrev n_Switch_leave : List Str := ["self", "person", "cause", "tick", "call", "actions"]
theorem sc_Switch_leave : FnScope n_Switch_leave ["self", "person", "cause", "tick"] (defScope s_Switch_leave) := ⟨rfl, rfl, rfl, by decide +kernel, rfl, by decide +kernel, by decide +kernel⟩
abbrev s_Switch_disconnect : Stmt := inClass (top 15) 16
abbrev n_Switch_disconnect : List Str := ["self", "person", "cause", "tick"]
theorem sc_Switch_disconnect : FnScope n_Switch_disconnect ["self", "person", "cause", "tick"] (defScope s_Switch_disconnect) := ⟨rfl, rfl, rfl, by decide +kernel, rfl, by decide +kernel, by decide +kernel⟩
abbrev s_Switch_lost : Stmt := inClass (top 15) 17
abbrev n_Switch_lost : List Str := ["self", "person", "tick"]
theorem sc_Switch_lost : FnScope n_Switch_lost ["self", "person", "tick"] (defScope s_Switch_lost) := ⟨rfl, rfl, rfl, by decide +kernel, rfl, by decide +kernel, by decide +kernel⟩
abbrev s_Switch_not_reached : Stmt := inClass (top 15) 18
abbrev n_Switch_not_reached : List Str := ["self", "call", "kind", "cause", "linked", "number", "goal", "busy", "side"]
theorem sc_Switch_not_reached : FnScope n_Switch_not_reached ["self", "call", "kind", "cause", "linked"] (defScope s_Switch_not_reached) := ⟨rfl, rfl, rfl, by decide +kernel, rfl, by decide +kernel, by decide +kernel⟩
abbrev s_Switch_failed : Stmt := inClass (top 15) 19
abbrev n_Switch_failed : List Str := ["self", "person", "linked", "tick", "call"]
theorem sc_Switch_failed : FnScope n_Switch_failed ["self", "person", "linked", "tick"] (defScope s_Switch_failed) := ⟨rfl, rfl, rfl, by decide +kernel, rfl, by decide +kernel, by decide +kernel⟩
abbrev s_Switch_step : Stmt := inClass (top 15) 20
abbrev n_Switch_step : List Str := ["self", "linked", "tick", "actions", "call", "person"]
theorem sc_Switch_step : FnScope n_Switch_step ["self", "linked", "tick"] (defScope s_Switch_step) := ⟨rfl, rfl, rfl, by decide +kernel, rfl, by decide +kernel, by decide +kernel⟩
abbrev s_Person_init : Stmt := inClass (top 17) 0
abbrev n_Person_init : List Str := ["self", "digits", "number"]
theorem sc_Person_init : FnScope n_Person_init ["self", "digits", "number"] (defScope s_Person_init) := ⟨rfl, rfl, rfl, by decide +kernel, rfl, by decide +kernel, by decide +kernel⟩
abbrev s_Home_init : Stmt := inClass (top 18) 0
abbrev n_Home_init : List Str := ["self"]
theorem sc_Home_init : FnScope n_Home_init ["self"] (defScope s_Home_init) := ⟨rfl, rfl, rfl, by decide +kernel, rfl, by decide +kernel, by decide +kernel⟩
abbrev s_Home_add : Stmt := inClass (top 18) 1
abbrev n_Home_add : List Str := ["self", "digits", "number"]
theorem sc_Home_add : FnScope n_Home_add ["self", "digits", "number"] (defScope s_Home_add) := ⟨rfl, rfl, rfl, by decide +kernel, rfl, by decide +kernel, by decide +kernel⟩
abbrev s_Home_find : Stmt := inClass (top 18) 2
abbrev n_Home_find : List Str := ["self", "person"]
theorem sc_Home_find : FnScope n_Home_find ["self", "person"] (defScope s_Home_find) := ⟨rfl, rfl, rfl, by decide +kernel, rfl, by decide +kernel, by decide +kernel⟩
abbrev s_Home_with_digits : Stmt := inClass (top 18) 3
abbrev n_Home_with_digits : List Str := ["self", "digits", "at", "row"]
theorem sc_Home_with_digits : FnScope n_Home_with_digits ["self", "digits"] (defScope s_Home_with_digits) := ⟨rfl, rfl, rfl, by decide +kernel, rfl, by decide +kernel, by decide +kernel⟩
abbrev s_Home_with_number : Stmt := inClass (top 18) 4
abbrev n_Home_with_number : List Str := ["self", "number", "at", "row"]
theorem sc_Home_with_number : FnScope n_Home_with_number ["self", "number"] (defScope s_Home_with_number) := ⟨rfl, rfl, rfl, by decide +kernel, rfl, by decide +kernel, by decide +kernel⟩
abbrev s_Home_number : Stmt := inClass (top 18) 6
abbrev n_Home_number : List Str := ["self", "person"]
theorem sc_Home_number : FnScope n_Home_number ["self", "person"] (defScope s_Home_number) := ⟨rfl, rfl, rfl, by decide +kernel, rfl, by decide +kernel, by decide +kernel⟩
abbrev s_Home_area : Stmt := inClass (top 18) 7
abbrev n_Home_area : List Str := ["self", "person"]
theorem sc_Home_area : FnScope n_Home_area ["self", "person"] (defScope s_Home_area) := ⟨rfl, rfl, rfl, by decide +kernel, rfl, by decide +kernel, by decide +kernel⟩
abbrev s_Home_set_area : Stmt := inClass (top 18) 8
abbrev n_Home_set_area : List Str := ["self", "person", "area", "row"]
theorem sc_Home_set_area : FnScope n_Home_set_area ["self", "person", "area"] (defScope s_Home_set_area) := ⟨rfl, rfl, rfl, by decide +kernel, rfl, by decide +kernel, by decide +kernel⟩
abbrev s_Home_forward : Stmt := inClass (top 18) 9
abbrev n_Home_forward : List Str := ["self", "person", "kind"]
theorem sc_Home_forward : FnScope n_Home_forward ["self", "person", "kind"] (defScope s_Home_forward) := ⟨rfl, rfl, rfl, by decide +kernel, rfl, by decide +kernel, by decide +kernel⟩
abbrev s_Home_set_forward : Stmt := inClass (top 18) 10
abbrev n_Home_set_forward : List Str := ["self", "person", "kind", "number", "row", "was"]
theorem sc_Home_set_forward : FnScope n_Home_set_forward ["self", "person", "kind", "number"] (defScope s_Home_set_forward) := ⟨rfl, rfl, rfl, by decide +kernel, rfl, by decide +kernel, by decide +kernel⟩
abbrev s_PhoneCall_init : Stmt := inClass (top 21) 0
abbrev n_PhoneCall_init : List Str := ["self"]
theorem sc_PhoneCall_init : FnScope n_PhoneCall_init ["self"] (defScope s_PhoneCall_init) := ⟨rfl, rfl, rfl, by decide +kernel, rfl, by decide +kernel, by decide +kernel⟩
abbrev s_PhoneCall_state : Stmt := inClass (top 21) 1
abbrev n_PhoneCall_state : List Str := ["self"]
theorem sc_PhoneCall_state : FnScope n_PhoneCall_state ["self"] (defScope s_PhoneCall_state) := ⟨rfl, rfl, rfl, by decide +kernel, rfl, by decide +kernel, by decide +kernel⟩
abbrev s_PhoneCall_said : Stmt := inClass (top 21) 3
abbrev n_PhoneCall_said : List Str := ["self"]
theorem sc_PhoneCall_said : FnScope n_PhoneCall_said ["self"] (defScope s_PhoneCall_said) := ⟨rfl, rfl, rfl, by decide +kernel, rfl, by decide +kernel, by decide +kernel⟩
abbrev s_PhoneCall_heard : Stmt := inClass (top 21) 4
abbrev n_PhoneCall_heard : List Str := ["self"]
theorem sc_PhoneCall_heard : FnScope n_PhoneCall_heard ["self"] (defScope s_PhoneCall_heard) := ⟨rfl, rfl, rfl, by decide +kernel, rfl, by decide +kernel, by decide +kernel⟩
abbrev s_PhoneCall_begin : Stmt := inClass (top 21) 5
abbrev n_PhoneCall_begin : List Str := ["self", "state"]
theorem sc_PhoneCall_begin : FnScope n_PhoneCall_begin ["self", "state"] (defScope s_PhoneCall_begin) := ⟨rfl, rfl, rfl, by decide +kernel, rfl, by decide +kernel, by decide +kernel⟩
abbrev s_PhoneCall_dial : Stmt := inClass (top 21) 6
abbrev n_PhoneCall_dial : List Str := ["self", "number"]
theorem sc_PhoneCall_dial : FnScope n_PhoneCall_dial ["self", "number"] (defScope s_PhoneCall_dial) := ⟨rfl, rfl, rfl, by decide +kernel, rfl, by decide +kernel, by decide +kernel⟩
abbrev s_PhoneCall_take : Stmt := inClass (top 21) 7
abbrev n_PhoneCall_take : List Str := ["self", "message", "kind"]
theorem sc_PhoneCall_take : FnScope n_PhoneCall_take ["self", "message"] (defScope s_PhoneCall_take) := ⟨rfl, rfl, rfl, by decide +kernel, rfl, by decide +kernel, by decide +kernel⟩
abbrev s_PhoneCall_take_disconnect : Stmt := inClass (top 21) 8
abbrev n_PhoneCall_take_disconnect : List Str := ["self", "cause"]
theorem sc_PhoneCall_take_disconnect : FnScope n_PhoneCall_take_disconnect ["self", "cause"] (defScope s_PhoneCall_take_disconnect) := ⟨rfl, rfl, rfl, by decide +kernel, rfl, by decide +kernel, by decide +kernel⟩
abbrev s_PhoneCall_move : Stmt := inClass (top 21) 9
abbrev n_PhoneCall_move : List Str := ["self", "kind", "state"]
theorem sc_PhoneCall_move : FnScope n_PhoneCall_move ["self", "kind"] (defScope s_PhoneCall_move) := ⟨rfl, rfl, rfl, by decide +kernel, rfl, by decide +kernel, by decide +kernel⟩
abbrev s_PhoneCall_answer : Stmt := inClass (top 21) 10
abbrev n_PhoneCall_answer : List Str := ["self"]
theorem sc_PhoneCall_answer : FnScope n_PhoneCall_answer ["self"] (defScope s_PhoneCall_answer) := ⟨rfl, rfl, rfl, by decide +kernel, rfl, by decide +kernel, by decide +kernel⟩
abbrev s_PhoneCall_say : Stmt := inClass (top 21) 11
abbrev n_PhoneCall_say : List Str := ["self", "octets"]
theorem sc_PhoneCall_say : FnScope n_PhoneCall_say ["self", "octets"] (defScope s_PhoneCall_say) := ⟨rfl, rfl, rfl, by decide +kernel, rfl, by decide +kernel, by decide +kernel⟩
abbrev s_PhoneCall_hang : Stmt := inClass (top 21) 12
abbrev n_PhoneCall_hang : List Str := ["self", "reached"]
theorem sc_PhoneCall_hang : FnScope n_PhoneCall_hang ["self", "reached"] (defScope s_PhoneCall_hang) := ⟨rfl, rfl, rfl, by decide +kernel, rfl, by decide +kernel, by decide +kernel⟩
abbrev s_PhoneCall_end : Stmt := inClass (top 21) 13
abbrev n_PhoneCall_end : List Str := ["self", "cause"]
theorem sc_PhoneCall_end : FnScope n_PhoneCall_end ["self", "cause"] (defScope s_PhoneCall_end) := ⟨rfl, rfl, rfl, by decide +kernel, rfl, by decide +kernel, by decide +kernel⟩
abbrev s_law_mixed : Stmt := top 23
abbrev n_law_mixed : List Str := ["_law_cell_here", "_law_turn", "_law_value", "_law_first", "_law_second", "_law_third"]
theorem sc_law_mixed : FnScope n_law_mixed ["_law_cell_here", "_law_turn"] (defScope s_law_mixed) := ⟨rfl, rfl, rfl, by decide +kernel, rfl, by decide +kernel, by decide +kernel⟩
abbrev s_law_cell : Stmt := top 24
abbrev n_law_cell : List Str := ["_law_script", "_law_k"]
theorem sc_law_cell : FnScope n_law_cell ["_law_script", "_law_k"] (defScope s_law_cell) := ⟨rfl, rfl, rfl, by decide +kernel, rfl, by decide +kernel, by decide +kernel⟩
abbrev s_law_number : Stmt := top 25
abbrev n_law_number : List Str := ["_law_script", "_law_k", "_law_cell_here"]
theorem sc_law_number : FnScope n_law_number ["_law_script", "_law_k"] (defScope s_law_number) := ⟨rfl, rfl, rfl, by decide +kernel, rfl, by decide +kernel, by decide +kernel⟩
abbrev s_law_pick : Stmt := top 26
abbrev n_law_pick : List Str := ["_law_numbers", "_law_digit"]
theorem sc_law_pick : FnScope n_law_pick ["_law_numbers", "_law_digit"] (defScope s_law_pick) := ⟨rfl, rfl, rfl, by decide +kernel, rfl, by decide +kernel, by decide +kernel⟩
abbrev s_law_home : Stmt := top 27
abbrev n_law_home : List Str := ["_law_script", "_law_people", "_law_home_here", "_law_k", "_law_numbers", "_law_facts", "_law_cell_here", "_law_fact", "_law_kind"]
theorem sc_law_home : FnScope n_law_home ["_law_script", "_law_people"] (defScope s_law_home) := ⟨rfl, rfl, rfl, by decide +kernel, rfl, by decide +kernel, by decide +kernel⟩
abbrev s_law_linked : Stmt := top 28
abbrev n_law_linked : List Str := ["_law_world", "_law_k"]
theorem sc_law_linked : FnScope n_law_linked ["_law_world"] (defScope s_law_linked) := ⟨rfl, rfl, rfl, by decide +kernel, rfl, by decide +kernel, by decide +kernel⟩
abbrev s_law_link : Stmt := top 29
abbrev n_law_link : List Str := ["_law_world", "_law_person", "_law_down_here"]
theorem sc_law_link : FnScope n_law_link ["_law_world", "_law_person", "_law_down_here"] (defScope s_law_link) := ⟨rfl, rfl, rfl, by decide +kernel, rfl, by decide +kernel, by decide +kernel⟩
abbrev s_law_unlink : Stmt := top 30
abbrev n_law_unlink : List Str := ["_law_world", "_law_person", "_law_cause"]
theorem sc_law_unlink : FnScope n_law_unlink ["_law_world", "_law_person", "_law_cause"] (defScope s_law_unlink) := ⟨rfl, rfl, rfl, by decide +kernel, rfl, by decide +kernel, by decide +kernel⟩
abbrev s_law_perform : Stmt := top 31
abbrev n_law_perform : List Str := ["_law_world", "_law_actions", "_law_action", "_law_person", "_law_able"]
theorem sc_law_perform : FnScope n_law_perform ["_law_world", "_law_actions"] (defScope s_law_perform) := ⟨rfl, rfl, rfl, by decide +kernel, rfl, by decide +kernel, by decide +kernel⟩
abbrev s_law_up : Stmt := top 32
abbrev n_law_up : List Str := ["_law_world", "_law_person", "_law_tick", "_law_message", "_law_switch", "_law_actions"]
theorem sc_law_up : FnScope n_law_up ["_law_world", "_law_person", "_law_tick"] (defScope s_law_up) := ⟨rfl, rfl, rfl, by decide +kernel, rfl, by decide +kernel, by decide +kernel⟩
abbrev s_law_down : Stmt := top 33
abbrev n_law_down : List Str := ["_law_world", "_law_person", "_law_message", "_law_answer"]
theorem sc_law_down : FnScope n_law_down ["_law_world", "_law_person"] (defScope s_law_down) := ⟨rfl, rfl, rfl, by decide +kernel, rfl, by decide +kernel, by decide +kernel⟩
abbrev s_law_user : Stmt := top 34
abbrev n_law_user : List Str := ["_law_world", "_law_person", "_law_value", "_law_call"]
theorem sc_law_user : FnScope n_law_user ["_law_world", "_law_person", "_law_value"] (defScope s_law_user) := ⟨rfl, rfl, rfl, by decide +kernel, rfl, by decide +kernel, by decide +kernel⟩
abbrev s_law_options : Stmt := top 35
abbrev n_law_options : List Str := ["_law_world", "_law_found", "_law_person", "_law_state"]
theorem sc_law_options : FnScope n_law_options ["_law_world"] (defScope s_law_options) := ⟨rfl, rfl, rfl, by decide +kernel, rfl, by decide +kernel, by decide +kernel⟩
abbrev s_law_move : Stmt := top 36
abbrev n_law_move : List Str := ["_law_world", "_law_value", "_law_tick", "_law_kind", "_law_person", "_law_options_here", "_law_free", "_law_switch", "_law_spare"]
theorem sc_law_move : FnScope n_law_move ["_law_world", "_law_value", "_law_tick"] (defScope s_law_move) := ⟨rfl, rfl, rfl, by decide +kernel, rfl, by decide +kernel, by decide +kernel⟩
abbrev s_law_ordered : Stmt := top 37
abbrev n_law_ordered : List Str := ["_law_world", "_law_whole", "_law_call", "_law_sides", "_law_k", "_law_said", "_law_come"]
theorem sc_law_ordered : FnScope n_law_ordered ["_law_world", "_law_whole"] (defScope s_law_ordered) := ⟨rfl, rfl, rfl, by decide +kernel, rfl, by decide +kernel, by decide +kernel⟩
abbrev s_law : Stmt := top 38
abbrev n_law : List Str := ["_law_script", "_law_people", "_law_home_here", "_law_numbers", "_law_spare", "_law_world", "_law_tick", "_law_turn", "_law_cell_here", "_law_value", "_law_person", "_law_left", "_law_k"]
theorem sc_law : FnScope n_law ["_law_script"] (defScope s_law) := ⟨rfl, rfl, rfl, by decide +kernel, rfl, by decide +kernel, by decide +kernel⟩
end Tx
end
section
set_option Elab.async false
set_option linter.all false
set_option maxRecDepth 100000
/-! What the walk leans on: facts by names. -/
namespace Tx
open PySem L2 He PyProof.Rows
def fa : List Fa := [.glo "Book", .glo "Call", .glo "Switch", .glo "Person", .glo "Home", .glo "PhoneCall", .glo "NotNow", .glo "NEXT", .glo "rule_for", .glo "find_goal", .glo "refuse", .glo "_law_mixed", .glo "_law_cell", .glo "_law_number", .glo "_law_pick", .glo "_law_home", .glo "_law_linked", .glo "_law_link", .glo "_law_unlink", .glo "_law_perform", .glo "_law_up", .glo "_law_down", .glo "_law_user", .glo "_law_options", .glo "_law_move", .glo "_law_ordered", .glo "law", .free "len", .free "list", .free "enumerate", .free "range", .free "tuple", .free "int", .free "str", .int "RING" 16, .int "HOPS" 2, .cls "Book", .cls "Call", .cls "Switch", .cls "Person", .cls "Home", .cls "PhoneCall", .noat "Book" "rows", .noat "Call" "caller", .noat "Call" "called", .noat "Call" "stage", .noat "Call" "hops", .noat "Call" "since", .noat "Call" "line", .noat "Switch" "home", .noat "Switch" "book", .noat "Switch" "rows", .noat "Person" "digits", .noat "Person" "number", .noat "Person" "area", .noat "Person" "numbers", .noat "Home" "rows", .noat "PhoneCall" "now", .noat "PhoneCall" "reason", .noat "PhoneCall" "number", .noat "PhoneCall" "marked", .noat "PhoneCall" "words_said", .noat "PhoneCall" "words_heard", .meth "Book" "begin", .meth "Book" "end", .meth "Call" "other", .meth "Switch" "find", .meth "Switch" "called_in", .meth "Switch" "sides", .meth "Switch" "calls", .meth "Switch" "is_leg", .meth "Switch" "start", .meth "Switch" "answered", .meth "Switch" "alerting", .meth "Switch" "connect", .meth "Switch" "connected", .meth "Switch" "word", .meth "Switch" "clear", .meth "Switch" "drop", .meth "Switch" "leave", .meth "Switch" "disconnect", .meth "Switch" "lost", .meth "Switch" "not_reached", .meth "Switch" "failed", .meth "Switch" "step", .meth "Home" "add", .meth "Home" "find", .meth "Home" "with_digits", .meth "Home" "with_number", .meth "Home" "number", .meth "Home" "area", .meth "Home" "set_area", .meth "Home" "forward", .meth "Home" "set_forward", .meth "PhoneCall" "begin", .meth "PhoneCall" "dial", .meth "PhoneCall" "take", .meth "PhoneCall" "take_disconnect", .meth "PhoneCall" "move", .meth "PhoneCall" "answer", .meth "PhoneCall" "say", .meth "PhoneCall" "hang", .meth "PhoneCall" "end", .mkr "Book", .mkr "Call", .mkr "Switch", .mkr "Person", .mkr "Home", .mkr "PhoneCall", .exm "NotNow" "NotNow" true]
def d_Book_init : DefD := ⟨("Book", some "__init__"), "__init__", "Book.__init__", defArgs s_Book_init, defBody s_Book_init, defScope s_Book_init, [], []⟩
def d_Book_begin : DefD := ⟨("Book", some "begin"), "begin", "Book.begin", defArgs s_Book_begin, defBody s_Book_begin, defScope s_Book_begin, [], []⟩
def d_Book_end : DefD := ⟨("Book", some "end"), "end", "Book.end", defArgs s_Book_end, defBody s_Book_end, defScope s_Book_end, [], []⟩
def d_rule_for : DefD := ⟨("rule_for", none), "rule_for", "rule_for", defArgs s_rule_for, defBody s_rule_for, defScope s_rule_for, [], []⟩
def d_find_goal : DefD := ⟨("find_goal", none), "find_goal", "find_goal", defArgs s_find_goal, defBody s_find_goal, defScope s_find_goal, [], []⟩
def d_Call_init : DefD := ⟨("Call", some "__init__"), "__init__", "Call.__init__", defArgs s_Call_init, defBody s_Call_init, defScope s_Call_init, [], []⟩
def d_Call_other : DefD := ⟨("Call", some "other"), "other", "Call.other", defArgs s_Call_other, defBody s_Call_other, defScope s_Call_other, [], []⟩
def d_refuse : DefD := ⟨("refuse", none), "refuse", "refuse", defArgs s_refuse, defBody s_refuse, defScope s_refuse, [], []⟩
def d_Switch_init : DefD := ⟨("Switch", some "__init__"), "__init__", "Switch.__init__", defArgs s_Switch_init, defBody s_Switch_init, defScope s_Switch_init, [], []⟩
def d_Switch_find : DefD := ⟨("Switch", some "find"), "find", "Switch.find", defArgs s_Switch_find, defBody s_Switch_find, defScope s_Switch_find, [], []⟩
def d_Switch_called_in : DefD := ⟨("Switch", some "called_in"), "called_in", "Switch.called_in", defArgs s_Switch_called_in, defBody s_Switch_called_in, defScope s_Switch_called_in, [], []⟩
def d_Switch_sides : DefD := ⟨("Switch", some "sides"), "sides", "Switch.sides", defArgs s_Switch_sides, defBody s_Switch_sides, defScope s_Switch_sides, [], []⟩
def d_Switch_calls : DefD := ⟨("Switch", some "calls"), "calls", "Switch.calls", defArgs s_Switch_calls, defBody s_Switch_calls, defScope s_Switch_calls, [], []⟩
def d_Switch_is_leg : DefD := ⟨("Switch", some "is_leg"), "is_leg", "Switch.is_leg", defArgs s_Switch_is_leg, defBody s_Switch_is_leg, defScope s_Switch_is_leg, [], []⟩
def d_Switch_start : DefD := ⟨("Switch", some "start"), "start", "Switch.start", defArgs s_Switch_start, defBody s_Switch_start, defScope s_Switch_start, [], []⟩
def d_Switch_answered : DefD := ⟨("Switch", some "answered"), "answered", "Switch.answered", defArgs s_Switch_answered, defBody s_Switch_answered, defScope s_Switch_answered, [], []⟩
def d_Switch_alerting : DefD := ⟨("Switch", some "alerting"), "alerting", "Switch.alerting", defArgs s_Switch_alerting, defBody s_Switch_alerting, defScope s_Switch_alerting, [], []⟩
def d_Switch_connect : DefD := ⟨("Switch", some "connect"), "connect", "Switch.connect", defArgs s_Switch_connect, defBody s_Switch_connect, defScope s_Switch_connect, [], []⟩
def d_Switch_connected : DefD := ⟨("Switch", some "connected"), "connected", "Switch.connected", defArgs s_Switch_connected, defBody s_Switch_connected, defScope s_Switch_connected, [], []⟩
def d_Switch_word : DefD := ⟨("Switch", some "word"), "word", "Switch.word", defArgs s_Switch_word, defBody s_Switch_word, defScope s_Switch_word, [], []⟩
def d_Switch_clear : DefD := ⟨("Switch", some "clear"), "clear", "Switch.clear", defArgs s_Switch_clear, defBody s_Switch_clear, defScope s_Switch_clear, [], []⟩
def d_Switch_drop : DefD := ⟨("Switch", some "drop"), "drop", "Switch.drop", defArgs s_Switch_drop, defBody s_Switch_drop, defScope s_Switch_drop, [], []⟩
def d_Switch_leave : DefD := ⟨("Switch", some "leave"), "leave", "Switch.leave", defArgs s_Switch_leave, defBody s_Switch_leave, defScope s_Switch_leave, [], []⟩
def d_Switch_disconnect : DefD := ⟨("Switch", some "disconnect"), "disconnect", "Switch.disconnect", defArgs s_Switch_disconnect, defBody s_Switch_disconnect, defScope s_Switch_disconnect, [], []⟩
def d_Switch_lost : DefD := ⟨("Switch", some "lost"), "lost", "Switch.lost", defArgs s_Switch_lost, defBody s_Switch_lost, defScope s_Switch_lost, [], []⟩
def d_Switch_not_reached : DefD := ⟨("Switch", some "not_reached"), "not_reached", "Switch.not_reached", defArgs s_Switch_not_reached, defBody s_Switch_not_reached, defScope s_Switch_not_reached, [], []⟩
def d_Switch_failed : DefD := ⟨("Switch", some "failed"), "failed", "Switch.failed", defArgs s_Switch_failed, defBody s_Switch_failed, defScope s_Switch_failed, [], []⟩
def d_Switch_step : DefD := ⟨("Switch", some "step"), "step", "Switch.step", defArgs s_Switch_step, defBody s_Switch_step, defScope s_Switch_step, [], []⟩
def d_Person_init : DefD := ⟨("Person", some "__init__"), "__init__", "Person.__init__", defArgs s_Person_init, defBody s_Person_init, defScope s_Person_init, [], []⟩
def d_Home_init : DefD := ⟨("Home", some "__init__"), "__init__", "Home.__init__", defArgs s_Home_init, defBody s_Home_init, defScope s_Home_init, [], []⟩
def d_Home_add : DefD := ⟨("Home", some "add"), "add", "Home.add", defArgs s_Home_add, defBody s_Home_add, defScope s_Home_add, [], []⟩
def d_Home_find : DefD := ⟨("Home", some "find"), "find", "Home.find", defArgs s_Home_find, defBody s_Home_find, defScope s_Home_find, [], []⟩
def d_Home_with_digits : DefD := ⟨("Home", some "with_digits"), "with_digits", "Home.with_digits", defArgs s_Home_with_digits, defBody s_Home_with_digits, defScope s_Home_with_digits, [], []⟩
def d_Home_with_number : DefD := ⟨("Home", some "with_number"), "with_number", "Home.with_number", defArgs s_Home_with_number, defBody s_Home_with_number, defScope s_Home_with_number, [], []⟩
def d_Home_number : DefD := ⟨("Home", some "number"), "number", "Home.number", defArgs s_Home_number, defBody s_Home_number, defScope s_Home_number, [], []⟩
def d_Home_area : DefD := ⟨("Home", some "area"), "area", "Home.area", defArgs s_Home_area, defBody s_Home_area, defScope s_Home_area, [], []⟩
def d_Home_set_area : DefD := ⟨("Home", some "set_area"), "set_area", "Home.set_area", defArgs s_Home_set_area, defBody s_Home_set_area, defScope s_Home_set_area, [], []⟩
def d_Home_forward : DefD := ⟨("Home", some "forward"), "forward", "Home.forward", defArgs s_Home_forward, defBody s_Home_forward, defScope s_Home_forward, [], []⟩
def d_Home_set_forward : DefD := ⟨("Home", some "set_forward"), "set_forward", "Home.set_forward", defArgs s_Home_set_forward, defBody s_Home_set_forward, defScope s_Home_set_forward, [], []⟩
def d_PhoneCall_init : DefD := ⟨("PhoneCall", some "__init__"), "__init__", "PhoneCall.__init__", defArgs s_PhoneCall_init, defBody s_PhoneCall_init, defScope s_PhoneCall_init, [], []⟩
def d_PhoneCall_begin : DefD := ⟨("PhoneCall", some "begin"), "begin", "PhoneCall.begin", defArgs s_PhoneCall_begin, defBody s_PhoneCall_begin, defScope s_PhoneCall_begin, [], []⟩
def d_PhoneCall_dial : DefD := ⟨("PhoneCall", some "dial"), "dial", "PhoneCall.dial", defArgs s_PhoneCall_dial, defBody s_PhoneCall_dial, defScope s_PhoneCall_dial, [], []⟩
def d_PhoneCall_take : DefD := ⟨("PhoneCall", some "take"), "take", "PhoneCall.take", defArgs s_PhoneCall_take, defBody s_PhoneCall_take, defScope s_PhoneCall_take, [], []⟩
def d_PhoneCall_take_disconnect : DefD := ⟨("PhoneCall", some "take_disconnect"), "take_disconnect", "PhoneCall.take_disconnect", defArgs s_PhoneCall_take_disconnect, defBody s_PhoneCall_take_disconnect, defScope s_PhoneCall_take_disconnect, [], []⟩
def d_PhoneCall_move : DefD := ⟨("PhoneCall", some "move"), "move", "PhoneCall.move", defArgs s_PhoneCall_move, defBody s_PhoneCall_move, defScope s_PhoneCall_move, [], []⟩
def d_PhoneCall_answer : DefD := ⟨("PhoneCall", some "answer"), "answer", "PhoneCall.answer", defArgs s_PhoneCall_answer, defBody s_PhoneCall_answer, defScope s_PhoneCall_answer, [], []⟩
def d_PhoneCall_say : DefD := ⟨("PhoneCall", some "say"), "say", "PhoneCall.say", defArgs s_PhoneCall_say, defBody s_PhoneCall_say, defScope s_PhoneCall_say, [], []⟩
def d_PhoneCall_hang : DefD := ⟨("PhoneCall", some "hang"), "hang", "PhoneCall.hang", defArgs s_PhoneCall_hang, defBody s_PhoneCall_hang, defScope s_PhoneCall_hang, [], []⟩
def d_PhoneCall_end : DefD := ⟨("PhoneCall", some "end"), "end", "PhoneCall.end", defArgs s_PhoneCall_end, defBody s_PhoneCall_end, defScope s_PhoneCall_end, [], []⟩
def d_law_mixed : DefD := ⟨("_law_mixed", none), "_law_mixed", "_law_mixed", defArgs s_law_mixed, defBody s_law_mixed, defScope s_law_mixed, [], []⟩
def d_law_cell : DefD := ⟨("_law_cell", none), "_law_cell", "_law_cell", defArgs s_law_cell, defBody s_law_cell, defScope s_law_cell, [], []⟩
def d_law_number : DefD := ⟨("_law_number", none), "_law_number", "_law_number", defArgs s_law_number, defBody s_law_number, defScope s_law_number, [], []⟩
def d_law_pick : DefD := ⟨("_law_pick", none), "_law_pick", "_law_pick", defArgs s_law_pick, defBody s_law_pick, defScope s_law_pick, [], []⟩
def d_law_home : DefD := ⟨("_law_home", none), "_law_home", "_law_home", defArgs s_law_home, defBody s_law_home, defScope s_law_home, [], []⟩
def d_law_linked : DefD := ⟨("_law_linked", none), "_law_linked", "_law_linked", defArgs s_law_linked, defBody s_law_linked, defScope s_law_linked, [], []⟩
def d_law_link : DefD := ⟨("_law_link", none), "_law_link", "_law_link", defArgs s_law_link, defBody s_law_link, defScope s_law_link, [], []⟩
def d_law_unlink : DefD := ⟨("_law_unlink", none), "_law_unlink", "_law_unlink", defArgs s_law_unlink, defBody s_law_unlink, defScope s_law_unlink, [], []⟩
def d_law_perform : DefD := ⟨("_law_perform", none), "_law_perform", "_law_perform", defArgs s_law_perform, defBody s_law_perform, defScope s_law_perform, [], []⟩
def d_law_up : DefD := ⟨("_law_up", none), "_law_up", "_law_up", defArgs s_law_up, defBody s_law_up, defScope s_law_up, [], []⟩
def d_law_down : DefD := ⟨("_law_down", none), "_law_down", "_law_down", defArgs s_law_down, defBody s_law_down, defScope s_law_down, [], []⟩
def d_law_user : DefD := ⟨("_law_user", none), "_law_user", "_law_user", defArgs s_law_user, defBody s_law_user, defScope s_law_user, [], []⟩
def d_law_options : DefD := ⟨("_law_options", none), "_law_options", "_law_options", defArgs s_law_options, defBody s_law_options, defScope s_law_options, [], []⟩
def d_law_move : DefD := ⟨("_law_move", none), "_law_move", "_law_move", defArgs s_law_move, defBody s_law_move, defScope s_law_move, [], []⟩
def d_law_ordered : DefD := ⟨("_law_ordered", none), "_law_ordered", "_law_ordered", defArgs s_law_ordered, defBody s_law_ordered, defScope s_law_ordered, [], []⟩
def d_law : DefD := ⟨("law", none), "law", "law", defArgs s_law, defBody s_law, defScope s_law, [], []⟩
def fn : List DefD := [d_Book_init, d_Book_begin, d_Book_end, d_rule_for, d_find_goal, d_Call_init, d_Call_other, d_refuse, d_Switch_init, d_Switch_find, d_Switch_called_in, d_Switch_sides, d_Switch_calls, d_Switch_is_leg, d_Switch_start, d_Switch_answered, d_Switch_alerting, d_Switch_connect, d_Switch_connected, d_Switch_word, d_Switch_clear, d_Switch_drop, d_Switch_leave, d_Switch_disconnect, d_Switch_lost, d_Switch_not_reached, d_Switch_failed, d_Switch_step, d_Person_init, d_Home_init, d_Home_add, d_Home_find, d_Home_with_digits, d_Home_with_number, d_Home_number, d_Home_area, d_Home_set_area, d_Home_forward, d_Home_set_forward, d_PhoneCall_init, d_PhoneCall_begin, d_PhoneCall_dial, d_PhoneCall_take, d_PhoneCall_take_disconnect, d_PhoneCall_move, d_PhoneCall_answer, d_PhoneCall_say, d_PhoneCall_hang, d_PhoneCall_end, d_law_mixed, d_law_cell, d_law_number, d_law_pick, d_law_home, d_law_linked, d_law_link, d_law_unlink, d_law_perform, d_law_up, d_law_down, d_law_user, d_law_options, d_law_move, d_law_ordered, d_law]
abbrev FnP (K : PySem.W.Frag) (x q : Str) (st : Stmt) (f : Addr) (fd : FuncData) : Prop := FunD K x q (defArgs st) (defBody st) (defScope st) [] [] f fd
/-- a property's getter -/
def gAd (K : PySem.W.Frag) (m : Str) : Addr := match PySem.W.recIn K (ma K (ga K "PhoneCall") m) "property" with
  | some (.ref g :: _) => g
  | _ => 0
structure Txt (K : PySem.W.Frag) (mg : Str → Option Value) : Prop where
  c : SaysD fa fn K
  ns : ∃ h : Heap, K.In h ∧ h.Ns mainGlobals mg
  pState : PropOf K (ga K "PhoneCall") "state" (ma K (ga K "PhoneCall") "state") (gAd K "state")
  pSaid : PropOf K (ga K "PhoneCall") "said" (ma K (ga K "PhoneCall") "said") (gAd K "said")
  pHeard : PropOf K (ga K "PhoneCall") "heard" (ma K (ga K "PhoneCall") "heard") (gAd K "heard")
  fState : ∃ fd, FnP K "state" "PhoneCall.state" s_PhoneCall_state (gAd K "state") fd
  fSaid : ∃ fd, FnP K "said" "PhoneCall.said" s_PhoneCall_said (gAd K "said") fd
  fHeard : ∃ fd, FnP K "heard" "PhoneCall.heard" s_PhoneCall_heard (gAd K "heard") fd
  fNot : ∃ fd, FnP K "__init__" "NotNow.__init__" s_NotNow_init (ma K (ga K "NotNow") "__init__") fd
  xNot : OexC K (ga K "NotNow")
  iNot : PySem.W.findIn K (.ref (ga K "NotNow")) "__init__" = some (some (.ref (ma K (ga K "NotNow") "__init__")))
  tNot : PySem.W.typeIn K (.ref (ma K (ga K "NotNow") "__init__")) = some (.type "function")
  wNot : PySem.W.findIn K (.ref (ga K "NotNow")) "what" = some none
/-- a def keeps its promise, its arguments come in order -/
def Has (P : Program) (w : World) (K : PySem.W.Frag) (mg : Str → Option Value) (base : Heap) (CX : CXT) (k : Nat) (f : Addr) (ps : List Str) (sp : Sp) : Prop := ∃ fd : FuncData, FnOk P w K mg base CX k f fd ps sp ∧ Binds K fd ps [] ∧ PySem.W.keepIn K (.ref f) = true
section
variable {K : PySem.W.Frag} {mg : Str → Option Value}
theorem mg_Book (T : Txt K mg) : mg "Book" = some (.ref (ga K "Book")) := let ⟨_, X, G⟩ := T.ns; glo_ok X G (T.c.fact 0 (f := .glo "Book") rfl)
theorem mg_Call (T : Txt K mg) : mg "Call" = some (.ref (ga K "Call")) := let ⟨_, X, G⟩ := T.ns; glo_ok X G (T.c.fact 1 (f := .glo "Call") rfl)
theorem mg_Switch (T : Txt K mg) : mg "Switch" = some (.ref (ga K "Switch")) := let ⟨_, X, G⟩ := T.ns; glo_ok X G (T.c.fact 2 (f := .glo "Switch") rfl)
theorem mg_Person (T : Txt K mg) : mg "Person" = some (.ref (ga K "Person")) := let ⟨_, X, G⟩ := T.ns; glo_ok X G (T.c.fact 3 (f := .glo "Person") rfl)
theorem mg_Home (T : Txt K mg) : mg "Home" = some (.ref (ga K "Home")) := let ⟨_, X, G⟩ := T.ns; glo_ok X G (T.c.fact 4 (f := .glo "Home") rfl)
theorem mg_PhoneCall (T : Txt K mg) : mg "PhoneCall" = some (.ref (ga K "PhoneCall")) := let ⟨_, X, G⟩ := T.ns; glo_ok X G (T.c.fact 5 (f := .glo "PhoneCall") rfl)
theorem mg_NotNow (T : Txt K mg) : mg "NotNow" = some (.ref (ga K "NotNow")) := let ⟨_, X, G⟩ := T.ns; glo_ok X G (T.c.fact 6 (f := .glo "NotNow") rfl)
theorem mg_NEXT (T : Txt K mg) : mg "NEXT" = some (.ref (ga K "NEXT")) := let ⟨_, X, G⟩ := T.ns; glo_ok X G (T.c.fact 7 (f := .glo "NEXT") rfl)
theorem mg_rule_for (T : Txt K mg) : mg "rule_for" = some (.ref (ga K "rule_for")) := let ⟨_, X, G⟩ := T.ns; glo_ok X G (T.c.fact 8 (f := .glo "rule_for") rfl)
theorem mg_find_goal (T : Txt K mg) : mg "find_goal" = some (.ref (ga K "find_goal")) := let ⟨_, X, G⟩ := T.ns; glo_ok X G (T.c.fact 9 (f := .glo "find_goal") rfl)
theorem mg_refuse (T : Txt K mg) : mg "refuse" = some (.ref (ga K "refuse")) := let ⟨_, X, G⟩ := T.ns; glo_ok X G (T.c.fact 10 (f := .glo "refuse") rfl)
theorem mg_law_mixed (T : Txt K mg) : mg "_law_mixed" = some (.ref (ga K "_law_mixed")) := let ⟨_, X, G⟩ := T.ns; glo_ok X G (T.c.fact 11 (f := .glo "_law_mixed") rfl)
theorem mg_law_cell (T : Txt K mg) : mg "_law_cell" = some (.ref (ga K "_law_cell")) := let ⟨_, X, G⟩ := T.ns; glo_ok X G (T.c.fact 12 (f := .glo "_law_cell") rfl)
theorem mg_law_number (T : Txt K mg) : mg "_law_number" = some (.ref (ga K "_law_number")) := let ⟨_, X, G⟩ := T.ns; glo_ok X G (T.c.fact 13 (f := .glo "_law_number") rfl)
theorem mg_law_pick (T : Txt K mg) : mg "_law_pick" = some (.ref (ga K "_law_pick")) := let ⟨_, X, G⟩ := T.ns; glo_ok X G (T.c.fact 14 (f := .glo "_law_pick") rfl)
theorem mg_law_home (T : Txt K mg) : mg "_law_home" = some (.ref (ga K "_law_home")) := let ⟨_, X, G⟩ := T.ns; glo_ok X G (T.c.fact 15 (f := .glo "_law_home") rfl)
theorem mg_law_linked (T : Txt K mg) : mg "_law_linked" = some (.ref (ga K "_law_linked")) := let ⟨_, X, G⟩ := T.ns; glo_ok X G (T.c.fact 16 (f := .glo "_law_linked") rfl)
theorem mg_law_link (T : Txt K mg) : mg "_law_link" = some (.ref (ga K "_law_link")) := let ⟨_, X, G⟩ := T.ns; glo_ok X G (T.c.fact 17 (f := .glo "_law_link") rfl)
theorem mg_law_unlink (T : Txt K mg) : mg "_law_unlink" = some (.ref (ga K "_law_unlink")) := let ⟨_, X, G⟩ := T.ns; glo_ok X G (T.c.fact 18 (f := .glo "_law_unlink") rfl)
theorem mg_law_perform (T : Txt K mg) : mg "_law_perform" = some (.ref (ga K "_law_perform")) := let ⟨_, X, G⟩ := T.ns; glo_ok X G (T.c.fact 19 (f := .glo "_law_perform") rfl)
theorem mg_law_up (T : Txt K mg) : mg "_law_up" = some (.ref (ga K "_law_up")) := let ⟨_, X, G⟩ := T.ns; glo_ok X G (T.c.fact 20 (f := .glo "_law_up") rfl)
theorem mg_law_down (T : Txt K mg) : mg "_law_down" = some (.ref (ga K "_law_down")) := let ⟨_, X, G⟩ := T.ns; glo_ok X G (T.c.fact 21 (f := .glo "_law_down") rfl)
theorem mg_law_user (T : Txt K mg) : mg "_law_user" = some (.ref (ga K "_law_user")) := let ⟨_, X, G⟩ := T.ns; glo_ok X G (T.c.fact 22 (f := .glo "_law_user") rfl)
theorem mg_law_options (T : Txt K mg) : mg "_law_options" = some (.ref (ga K "_law_options")) := let ⟨_, X, G⟩ := T.ns; glo_ok X G (T.c.fact 23 (f := .glo "_law_options") rfl)
theorem mg_law_move (T : Txt K mg) : mg "_law_move" = some (.ref (ga K "_law_move")) := let ⟨_, X, G⟩ := T.ns; glo_ok X G (T.c.fact 24 (f := .glo "_law_move") rfl)
theorem mg_law_ordered (T : Txt K mg) : mg "_law_ordered" = some (.ref (ga K "_law_ordered")) := let ⟨_, X, G⟩ := T.ns; glo_ok X G (T.c.fact 25 (f := .glo "_law_ordered") rfl)
theorem mg_law (T : Txt K mg) : mg "law" = some (.ref (ga K "law")) := let ⟨_, X, G⟩ := T.ns; glo_ok X G (T.c.fact 26 (f := .glo "law") rfl)
theorem fr_len (T : Txt K mg) : mg "len" = none := let ⟨_, X, G⟩ := T.ns; free_ok X G (T.c.fact 27 (f := .free "len") rfl)
theorem fr_list (T : Txt K mg) : mg "list" = none := let ⟨_, X, G⟩ := T.ns; free_ok X G (T.c.fact 28 (f := .free "list") rfl)
theorem fr_enumerate (T : Txt K mg) : mg "enumerate" = none := let ⟨_, X, G⟩ := T.ns; free_ok X G (T.c.fact 29 (f := .free "enumerate") rfl)
theorem fr_range (T : Txt K mg) : mg "range" = none := let ⟨_, X, G⟩ := T.ns; free_ok X G (T.c.fact 30 (f := .free "range") rfl)
theorem fr_tuple (T : Txt K mg) : mg "tuple" = none := let ⟨_, X, G⟩ := T.ns; free_ok X G (T.c.fact 31 (f := .free "tuple") rfl)
theorem fr_int (T : Txt K mg) : mg "int" = none := let ⟨_, X, G⟩ := T.ns; free_ok X G (T.c.fact 32 (f := .free "int") rfl)
theorem fr_str (T : Txt K mg) : mg "str" = none := let ⟨_, X, G⟩ := T.ns; free_ok X G (T.c.fact 33 (f := .free "str") rfl)
theorem mg_RING (T : Txt K mg) : ∃ t, mg "RING" = some (.int 16 t) := let ⟨_, X, G⟩ := T.ns; int_ok X G (T.c.fact 34 (f := .int "RING" 16) rfl)
theorem mg_HOPS (T : Txt K mg) : ∃ t, mg "HOPS" = some (.int 2 t) := let ⟨_, X, G⟩ := T.ns; int_ok X G (T.c.fact 35 (f := .int "HOPS" 2) rfl)
theorem cl_Book (T : Txt K mg) : Cls K (ga K "Book") := cls_ok (T.c.fact 36 (f := .cls "Book") rfl)
theorem cl_Call (T : Txt K mg) : Cls K (ga K "Call") := cls_ok (T.c.fact 37 (f := .cls "Call") rfl)
theorem cl_Switch (T : Txt K mg) : Cls K (ga K "Switch") := cls_ok (T.c.fact 38 (f := .cls "Switch") rfl)
theorem cl_Person (T : Txt K mg) : Cls K (ga K "Person") := cls_ok (T.c.fact 39 (f := .cls "Person") rfl)
theorem cl_Home (T : Txt K mg) : Cls K (ga K "Home") := cls_ok (T.c.fact 40 (f := .cls "Home") rfl)
theorem cl_PhoneCall (T : Txt K mg) : Cls K (ga K "PhoneCall") := cls_ok (T.c.fact 41 (f := .cls "PhoneCall") rfl)
theorem na_Book_rows (T : Txt K mg) : NoAttr K (ga K "Book") "rows" := noat_ok (T.c.fact 42 (f := .noat "Book" "rows") rfl)
theorem na_Call_caller (T : Txt K mg) : NoAttr K (ga K "Call") "caller" := noat_ok (T.c.fact 43 (f := .noat "Call" "caller") rfl)
theorem na_Call_called (T : Txt K mg) : NoAttr K (ga K "Call") "called" := noat_ok (T.c.fact 44 (f := .noat "Call" "called") rfl)
theorem na_Call_stage (T : Txt K mg) : NoAttr K (ga K "Call") "stage" := noat_ok (T.c.fact 45 (f := .noat "Call" "stage") rfl)
theorem na_Call_hops (T : Txt K mg) : NoAttr K (ga K "Call") "hops" := noat_ok (T.c.fact 46 (f := .noat "Call" "hops") rfl)
theorem na_Call_since (T : Txt K mg) : NoAttr K (ga K "Call") "since" := noat_ok (T.c.fact 47 (f := .noat "Call" "since") rfl)
theorem na_Call_line (T : Txt K mg) : NoAttr K (ga K "Call") "line" := noat_ok (T.c.fact 48 (f := .noat "Call" "line") rfl)
theorem na_Switch_home (T : Txt K mg) : NoAttr K (ga K "Switch") "home" := noat_ok (T.c.fact 49 (f := .noat "Switch" "home") rfl)
theorem na_Switch_book (T : Txt K mg) : NoAttr K (ga K "Switch") "book" := noat_ok (T.c.fact 50 (f := .noat "Switch" "book") rfl)
theorem na_Switch_rows (T : Txt K mg) : NoAttr K (ga K "Switch") "rows" := noat_ok (T.c.fact 51 (f := .noat "Switch" "rows") rfl)
theorem na_Person_digits (T : Txt K mg) : NoAttr K (ga K "Person") "digits" := noat_ok (T.c.fact 52 (f := .noat "Person" "digits") rfl)
theorem na_Person_number (T : Txt K mg) : NoAttr K (ga K "Person") "number" := noat_ok (T.c.fact 53 (f := .noat "Person" "number") rfl)
theorem na_Person_area (T : Txt K mg) : NoAttr K (ga K "Person") "area" := noat_ok (T.c.fact 54 (f := .noat "Person" "area") rfl)
theorem na_Person_numbers (T : Txt K mg) : NoAttr K (ga K "Person") "numbers" := noat_ok (T.c.fact 55 (f := .noat "Person" "numbers") rfl)
theorem na_Home_rows (T : Txt K mg) : NoAttr K (ga K "Home") "rows" := noat_ok (T.c.fact 56 (f := .noat "Home" "rows") rfl)
theorem na_PhoneCall_now (T : Txt K mg) : NoAttr K (ga K "PhoneCall") "now" := noat_ok (T.c.fact 57 (f := .noat "PhoneCall" "now") rfl)
theorem na_PhoneCall_reason (T : Txt K mg) : NoAttr K (ga K "PhoneCall") "reason" := noat_ok (T.c.fact 58 (f := .noat "PhoneCall" "reason") rfl)
theorem na_PhoneCall_number (T : Txt K mg) : NoAttr K (ga K "PhoneCall") "number" := noat_ok (T.c.fact 59 (f := .noat "PhoneCall" "number") rfl)
theorem na_PhoneCall_marked (T : Txt K mg) : NoAttr K (ga K "PhoneCall") "marked" := noat_ok (T.c.fact 60 (f := .noat "PhoneCall" "marked") rfl)
theorem na_PhoneCall_words_said (T : Txt K mg) : NoAttr K (ga K "PhoneCall") "words_said" := noat_ok (T.c.fact 61 (f := .noat "PhoneCall" "words_said") rfl)
theorem na_PhoneCall_words_heard (T : Txt K mg) : NoAttr K (ga K "PhoneCall") "words_heard" := noat_ok (T.c.fact 62 (f := .noat "PhoneCall" "words_heard") rfl)
theorem me_Book_begin (T : Txt K mg) : Meth K (ga K "Book") "begin" (ma K (ga K "Book") "begin") := meth_ok (T.c.fact 63 (f := .meth "Book" "begin") rfl)
theorem me_Book_end (T : Txt K mg) : Meth K (ga K "Book") "end" (ma K (ga K "Book") "end") := meth_ok (T.c.fact 64 (f := .meth "Book" "end") rfl)
theorem me_Call_other (T : Txt K mg) : Meth K (ga K "Call") "other" (ma K (ga K "Call") "other") := meth_ok (T.c.fact 65 (f := .meth "Call" "other") rfl)
theorem me_Switch_find (T : Txt K mg) : Meth K (ga K "Switch") "find" (ma K (ga K "Switch") "find") := meth_ok (T.c.fact 66 (f := .meth "Switch" "find") rfl)
theorem me_Switch_called_in (T : Txt K mg) : Meth K (ga K "Switch") "called_in" (ma K (ga K "Switch") "called_in") := meth_ok (T.c.fact 67 (f := .meth "Switch" "called_in") rfl)
theorem me_Switch_sides (T : Txt K mg) : Meth K (ga K "Switch") "sides" (ma K (ga K "Switch") "sides") := meth_ok (T.c.fact 68 (f := .meth "Switch" "sides") rfl)
theorem me_Switch_calls (T : Txt K mg) : Meth K (ga K "Switch") "calls" (ma K (ga K "Switch") "calls") := meth_ok (T.c.fact 69 (f := .meth "Switch" "calls") rfl)
theorem me_Switch_is_leg (T : Txt K mg) : Meth K (ga K "Switch") "is_leg" (ma K (ga K "Switch") "is_leg") := meth_ok (T.c.fact 70 (f := .meth "Switch" "is_leg") rfl)
theorem me_Switch_start (T : Txt K mg) : Meth K (ga K "Switch") "start" (ma K (ga K "Switch") "start") := meth_ok (T.c.fact 71 (f := .meth "Switch" "start") rfl)
theorem me_Switch_answered (T : Txt K mg) : Meth K (ga K "Switch") "answered" (ma K (ga K "Switch") "answered") := meth_ok (T.c.fact 72 (f := .meth "Switch" "answered") rfl)
theorem me_Switch_alerting (T : Txt K mg) : Meth K (ga K "Switch") "alerting" (ma K (ga K "Switch") "alerting") := meth_ok (T.c.fact 73 (f := .meth "Switch" "alerting") rfl)
theorem me_Switch_connect (T : Txt K mg) : Meth K (ga K "Switch") "connect" (ma K (ga K "Switch") "connect") := meth_ok (T.c.fact 74 (f := .meth "Switch" "connect") rfl)
theorem me_Switch_connected (T : Txt K mg) : Meth K (ga K "Switch") "connected" (ma K (ga K "Switch") "connected") := meth_ok (T.c.fact 75 (f := .meth "Switch" "connected") rfl)
theorem me_Switch_word (T : Txt K mg) : Meth K (ga K "Switch") "word" (ma K (ga K "Switch") "word") := meth_ok (T.c.fact 76 (f := .meth "Switch" "word") rfl)
theorem me_Switch_clear (T : Txt K mg) : Meth K (ga K "Switch") "clear" (ma K (ga K "Switch") "clear") := meth_ok (T.c.fact 77 (f := .meth "Switch" "clear") rfl)
theorem me_Switch_drop (T : Txt K mg) : Meth K (ga K "Switch") "drop" (ma K (ga K "Switch") "drop") := meth_ok (T.c.fact 78 (f := .meth "Switch" "drop") rfl)
theorem me_Switch_leave (T : Txt K mg) : Meth K (ga K "Switch") "leave" (ma K (ga K "Switch") "leave") := meth_ok (T.c.fact 79 (f := .meth "Switch" "leave") rfl)
theorem me_Switch_disconnect (T : Txt K mg) : Meth K (ga K "Switch") "disconnect" (ma K (ga K "Switch") "disconnect") := meth_ok (T.c.fact 80 (f := .meth "Switch" "disconnect") rfl)
theorem me_Switch_lost (T : Txt K mg) : Meth K (ga K "Switch") "lost" (ma K (ga K "Switch") "lost") := meth_ok (T.c.fact 81 (f := .meth "Switch" "lost") rfl)
theorem me_Switch_not_reached (T : Txt K mg) : Meth K (ga K "Switch") "not_reached" (ma K (ga K "Switch") "not_reached") := meth_ok (T.c.fact 82 (f := .meth "Switch" "not_reached") rfl)
theorem me_Switch_failed (T : Txt K mg) : Meth K (ga K "Switch") "failed" (ma K (ga K "Switch") "failed") := meth_ok (T.c.fact 83 (f := .meth "Switch" "failed") rfl)
theorem me_Switch_step (T : Txt K mg) : Meth K (ga K "Switch") "step" (ma K (ga K "Switch") "step") := meth_ok (T.c.fact 84 (f := .meth "Switch" "step") rfl)
theorem me_Home_add (T : Txt K mg) : Meth K (ga K "Home") "add" (ma K (ga K "Home") "add") := meth_ok (T.c.fact 85 (f := .meth "Home" "add") rfl)
theorem me_Home_find (T : Txt K mg) : Meth K (ga K "Home") "find" (ma K (ga K "Home") "find") := meth_ok (T.c.fact 86 (f := .meth "Home" "find") rfl)
theorem me_Home_with_digits (T : Txt K mg) : Meth K (ga K "Home") "with_digits" (ma K (ga K "Home") "with_digits") := meth_ok (T.c.fact 87 (f := .meth "Home" "with_digits") rfl)
theorem me_Home_with_number (T : Txt K mg) : Meth K (ga K "Home") "with_number" (ma K (ga K "Home") "with_number") := meth_ok (T.c.fact 88 (f := .meth "Home" "with_number") rfl)
theorem me_Home_number (T : Txt K mg) : Meth K (ga K "Home") "number" (ma K (ga K "Home") "number") := meth_ok (T.c.fact 89 (f := .meth "Home" "number") rfl)
theorem me_Home_area (T : Txt K mg) : Meth K (ga K "Home") "area" (ma K (ga K "Home") "area") := meth_ok (T.c.fact 90 (f := .meth "Home" "area") rfl)
theorem me_Home_set_area (T : Txt K mg) : Meth K (ga K "Home") "set_area" (ma K (ga K "Home") "set_area") := meth_ok (T.c.fact 91 (f := .meth "Home" "set_area") rfl)
theorem me_Home_forward (T : Txt K mg) : Meth K (ga K "Home") "forward" (ma K (ga K "Home") "forward") := meth_ok (T.c.fact 92 (f := .meth "Home" "forward") rfl)
theorem me_Home_set_forward (T : Txt K mg) : Meth K (ga K "Home") "set_forward" (ma K (ga K "Home") "set_forward") := meth_ok (T.c.fact 93 (f := .meth "Home" "set_forward") rfl)
theorem me_PhoneCall_begin (T : Txt K mg) : Meth K (ga K "PhoneCall") "begin" (ma K (ga K "PhoneCall") "begin") := meth_ok (T.c.fact 94 (f := .meth "PhoneCall" "begin") rfl)
theorem me_PhoneCall_dial (T : Txt K mg) : Meth K (ga K "PhoneCall") "dial" (ma K (ga K "PhoneCall") "dial") := meth_ok (T.c.fact 95 (f := .meth "PhoneCall" "dial") rfl)
theorem me_PhoneCall_take (T : Txt K mg) : Meth K (ga K "PhoneCall") "take" (ma K (ga K "PhoneCall") "take") := meth_ok (T.c.fact 96 (f := .meth "PhoneCall" "take") rfl)
theorem me_PhoneCall_take_disconnect (T : Txt K mg) : Meth K (ga K "PhoneCall") "take_disconnect" (ma K (ga K "PhoneCall") "take_disconnect") := meth_ok (T.c.fact 97 (f := .meth "PhoneCall" "take_disconnect") rfl)
theorem me_PhoneCall_move (T : Txt K mg) : Meth K (ga K "PhoneCall") "move" (ma K (ga K "PhoneCall") "move") := meth_ok (T.c.fact 98 (f := .meth "PhoneCall" "move") rfl)
theorem me_PhoneCall_answer (T : Txt K mg) : Meth K (ga K "PhoneCall") "answer" (ma K (ga K "PhoneCall") "answer") := meth_ok (T.c.fact 99 (f := .meth "PhoneCall" "answer") rfl)
theorem me_PhoneCall_say (T : Txt K mg) : Meth K (ga K "PhoneCall") "say" (ma K (ga K "PhoneCall") "say") := meth_ok (T.c.fact 100 (f := .meth "PhoneCall" "say") rfl)
theorem me_PhoneCall_hang (T : Txt K mg) : Meth K (ga K "PhoneCall") "hang" (ma K (ga K "PhoneCall") "hang") := meth_ok (T.c.fact 101 (f := .meth "PhoneCall" "hang") rfl)
theorem me_PhoneCall_end (T : Txt K mg) : Meth K (ga K "PhoneCall") "end" (ma K (ga K "PhoneCall") "end") := meth_ok (T.c.fact 102 (f := .meth "PhoneCall" "end") rfl)
theorem mk_Book (T : Txt K mg) : Mk K (ga K "Book") (ma K (ga K "Book") "__init__") := mkr_ok (T.c.fact 103 (f := .mkr "Book") rfl)
theorem mk_Call (T : Txt K mg) : Mk K (ga K "Call") (ma K (ga K "Call") "__init__") := mkr_ok (T.c.fact 104 (f := .mkr "Call") rfl)
theorem mk_Switch (T : Txt K mg) : Mk K (ga K "Switch") (ma K (ga K "Switch") "__init__") := mkr_ok (T.c.fact 105 (f := .mkr "Switch") rfl)
theorem mk_Person (T : Txt K mg) : Mk K (ga K "Person") (ma K (ga K "Person") "__init__") := mkr_ok (T.c.fact 106 (f := .mkr "Person") rfl)
theorem mk_Home (T : Txt K mg) : Mk K (ga K "Home") (ma K (ga K "Home") "__init__") := mkr_ok (T.c.fact 107 (f := .mkr "Home") rfl)
theorem mk_PhoneCall (T : Txt K mg) : Mk K (ga K "PhoneCall") (ma K (ga K "PhoneCall") "__init__") := mkr_ok (T.c.fact 108 (f := .mkr "PhoneCall") rfl)
theorem xm_NotNow (T : Txt K mg) : PySem.W.exmOne K (.ref (ga K "NotNow")) (.ref (ga K "NotNow")) = some true := exm_ok (T.c.fact 109 (f := .exm "NotNow" "NotNow" true) rfl)
theorem fd_Book_init (T : Txt K mg) : ∃ fd, FnP K "__init__" "Book.__init__" s_Book_init (ma K (ga K "Book") "__init__") fd := T.c.def_ 0 (d := d_Book_init) rfl
theorem bi_Book_init {f : Addr} {fd : FuncData} (F : FnP K "__init__" "Book.__init__" s_Book_init f fd) : Binds K fd ["self"] [] := F.bindsN fun _ _ _ _ _ _ us hl => match us, hl with | [_], _ => rfl
theorem fd_Book_begin (T : Txt K mg) : ∃ fd, FnP K "begin" "Book.begin" s_Book_begin (ma K (ga K "Book") "begin") fd := T.c.def_ 1 (d := d_Book_begin) rfl
theorem bi_Book_begin {f : Addr} {fd : FuncData} (F : FnP K "begin" "Book.begin" s_Book_begin f fd) : Binds K fd ["self", "caller", "called", "tick"] [] := F.bindsN fun _ _ _ _ _ _ us hl => match us, hl with | [_, _, _, _], _ => rfl
theorem fd_Book_end (T : Txt K mg) : ∃ fd, FnP K "end" "Book.end" s_Book_end (ma K (ga K "Book") "end") fd := T.c.def_ 2 (d := d_Book_end) rfl
theorem bi_Book_end {f : Addr} {fd : FuncData} (F : FnP K "end" "Book.end" s_Book_end f fd) : Binds K fd ["self", "line", "tick", "cause"] [] := F.bindsN fun _ _ _ _ _ _ us hl => match us, hl with | [_, _, _, _], _ => rfl
theorem fd_rule_for (T : Txt K mg) : ∃ fd, FnP K "rule_for" "rule_for" s_rule_for (ga K "rule_for") fd := T.c.def_ 3 (d := d_rule_for) rfl
theorem bi_rule_for {f : Addr} {fd : FuncData} (F : FnP K "rule_for" "rule_for" s_rule_for f fd) : Binds K fd ["home", "person", "caller", "busy"] [] := F.bindsN fun _ _ _ _ _ _ us hl => match us, hl with | [_, _, _, _], _ => rfl
theorem fd_find_goal (T : Txt K mg) : ∃ fd, FnP K "find_goal" "find_goal" s_find_goal (ga K "find_goal") fd := T.c.def_ 4 (d := d_find_goal) rfl
theorem bi_find_goal {f : Addr} {fd : FuncData} (F : FnP K "find_goal" "find_goal" s_find_goal f fd) : Binds K fd ["home", "number", "caller", "busy", "hops"] [] := F.bindsN fun _ _ _ _ _ _ us hl => match us, hl with | [_, _, _, _, _], _ => rfl
theorem fd_Call_init (T : Txt K mg) : ∃ fd, FnP K "__init__" "Call.__init__" s_Call_init (ma K (ga K "Call") "__init__") fd := T.c.def_ 5 (d := d_Call_init) rfl
theorem bi_Call_init {f : Addr} {fd : FuncData} (F : FnP K "__init__" "Call.__init__" s_Call_init f fd) : Binds K fd ["self", "caller", "called", "hops"] [] := F.bindsN fun _ _ _ _ _ _ us hl => match us, hl with | [_, _, _, _], _ => rfl
theorem fd_Call_other (T : Txt K mg) : ∃ fd, FnP K "other" "Call.other" s_Call_other (ma K (ga K "Call") "other") fd := T.c.def_ 6 (d := d_Call_other) rfl
theorem bi_Call_other {f : Addr} {fd : FuncData} (F : FnP K "other" "Call.other" s_Call_other f fd) : Binds K fd ["self", "person"] [] := F.bindsN fun _ _ _ _ _ _ us hl => match us, hl with | [_, _], _ => rfl
theorem fd_refuse (T : Txt K mg) : ∃ fd, FnP K "refuse" "refuse" s_refuse (ga K "refuse") fd := T.c.def_ 7 (d := d_refuse) rfl
theorem bi_refuse {f : Addr} {fd : FuncData} (F : FnP K "refuse" "refuse" s_refuse f fd) : Binds K fd ["person", "cause"] [] := F.bindsN fun _ _ _ _ _ _ us hl => match us, hl with | [_, _], _ => rfl
theorem fd_Switch_init (T : Txt K mg) : ∃ fd, FnP K "__init__" "Switch.__init__" s_Switch_init (ma K (ga K "Switch") "__init__") fd := T.c.def_ 8 (d := d_Switch_init) rfl
theorem bi_Switch_init {f : Addr} {fd : FuncData} (F : FnP K "__init__" "Switch.__init__" s_Switch_init f fd) : Binds K fd ["self", "home"] [] := F.bindsN fun _ _ _ _ _ _ us hl => match us, hl with | [_, _], _ => rfl
theorem fd_Switch_find (T : Txt K mg) : ∃ fd, FnP K "find" "Switch.find" s_Switch_find (ma K (ga K "Switch") "find") fd := T.c.def_ 9 (d := d_Switch_find) rfl
theorem bi_Switch_find {f : Addr} {fd : FuncData} (F : FnP K "find" "Switch.find" s_Switch_find f fd) : Binds K fd ["self", "person"] [] := F.bindsN fun _ _ _ _ _ _ us hl => match us, hl with | [_, _], _ => rfl
theorem fd_Switch_called_in (T : Txt K mg) : ∃ fd, FnP K "called_in" "Switch.called_in" s_Switch_called_in (ma K (ga K "Switch") "called_in") fd := T.c.def_ 10 (d := d_Switch_called_in) rfl
theorem bi_Switch_called_in {f : Addr} {fd : FuncData} (F : FnP K "called_in" "Switch.called_in" s_Switch_called_in f fd) : Binds K fd ["self", "person", "stages"] [] := F.bindsN fun _ _ _ _ _ _ us hl => match us, hl with | [_, _, _], _ => rfl
theorem fd_Switch_sides (T : Txt K mg) : ∃ fd, FnP K "sides" "Switch.sides" s_Switch_sides (ma K (ga K "Switch") "sides") fd := T.c.def_ 11 (d := d_Switch_sides) rfl
theorem bi_Switch_sides {f : Addr} {fd : FuncData} (F : FnP K "sides" "Switch.sides" s_Switch_sides f fd) : Binds K fd ["self"] [] := F.bindsN fun _ _ _ _ _ _ us hl => match us, hl with | [_], _ => rfl
theorem fd_Switch_calls (T : Txt K mg) : ∃ fd, FnP K "calls" "Switch.calls" s_Switch_calls (ma K (ga K "Switch") "calls") fd := T.c.def_ 12 (d := d_Switch_calls) rfl
theorem bi_Switch_calls {f : Addr} {fd : FuncData} (F : FnP K "calls" "Switch.calls" s_Switch_calls f fd) : Binds K fd ["self"] [] := F.bindsN fun _ _ _ _ _ _ us hl => match us, hl with | [_], _ => rfl
theorem fd_Switch_is_leg (T : Txt K mg) : ∃ fd, FnP K "is_leg" "Switch.is_leg" s_Switch_is_leg (ma K (ga K "Switch") "is_leg") fd := T.c.def_ 13 (d := d_Switch_is_leg) rfl
theorem bi_Switch_is_leg {f : Addr} {fd : FuncData} (F : FnP K "is_leg" "Switch.is_leg" s_Switch_is_leg f fd) : Binds K fd ["self", "person"] [] := F.bindsN fun _ _ _ _ _ _ us hl => match us, hl with | [_, _], _ => rfl
theorem fd_Switch_start (T : Txt K mg) : ∃ fd, FnP K "start" "Switch.start" s_Switch_start (ma K (ga K "Switch") "start") fd := T.c.def_ 14 (d := d_Switch_start) rfl
theorem bi_Switch_start {f : Addr} {fd : FuncData} (F : FnP K "start" "Switch.start" s_Switch_start f fd) : Binds K fd ["self", "person", "number", "linked", "tick"] [] := F.bindsN fun _ _ _ _ _ _ us hl => match us, hl with | [_, _, _, _, _], _ => rfl
theorem fd_Switch_answered (T : Txt K mg) : ∃ fd, FnP K "answered" "Switch.answered" s_Switch_answered (ma K (ga K "Switch") "answered") fd := T.c.def_ 15 (d := d_Switch_answered) rfl
theorem bi_Switch_answered {f : Addr} {fd : FuncData} (F : FnP K "answered" "Switch.answered" s_Switch_answered f fd) : Binds K fd ["self", "person", "tick"] [] := F.bindsN fun _ _ _ _ _ _ us hl => match us, hl with | [_, _, _], _ => rfl
theorem fd_Switch_alerting (T : Txt K mg) : ∃ fd, FnP K "alerting" "Switch.alerting" s_Switch_alerting (ma K (ga K "Switch") "alerting") fd := T.c.def_ 16 (d := d_Switch_alerting) rfl
theorem bi_Switch_alerting {f : Addr} {fd : FuncData} (F : FnP K "alerting" "Switch.alerting" s_Switch_alerting f fd) : Binds K fd ["self", "person"] [] := F.bindsN fun _ _ _ _ _ _ us hl => match us, hl with | [_, _], _ => rfl
theorem fd_Switch_connect (T : Txt K mg) : ∃ fd, FnP K "connect" "Switch.connect" s_Switch_connect (ma K (ga K "Switch") "connect") fd := T.c.def_ 17 (d := d_Switch_connect) rfl
theorem bi_Switch_connect {f : Addr} {fd : FuncData} (F : FnP K "connect" "Switch.connect" s_Switch_connect f fd) : Binds K fd ["self", "person"] [] := F.bindsN fun _ _ _ _ _ _ us hl => match us, hl with | [_, _], _ => rfl
theorem fd_Switch_connected (T : Txt K mg) : ∃ fd, FnP K "connected" "Switch.connected" s_Switch_connected (ma K (ga K "Switch") "connected") fd := T.c.def_ 18 (d := d_Switch_connected) rfl
theorem bi_Switch_connected {f : Addr} {fd : FuncData} (F : FnP K "connected" "Switch.connected" s_Switch_connected f fd) : Binds K fd ["self", "person", "tick"] [] := F.bindsN fun _ _ _ _ _ _ us hl => match us, hl with | [_, _, _], _ => rfl
theorem fd_Switch_word (T : Txt K mg) : ∃ fd, FnP K "word" "Switch.word" s_Switch_word (ma K (ga K "Switch") "word") fd := T.c.def_ 19 (d := d_Switch_word) rfl
theorem bi_Switch_word {f : Addr} {fd : FuncData} (F : FnP K "word" "Switch.word" s_Switch_word f fd) : Binds K fd ["self", "person", "octets"] [] := F.bindsN fun _ _ _ _ _ _ us hl => match us, hl with | [_, _, _], _ => rfl
theorem fd_Switch_clear (T : Txt K mg) : ∃ fd, FnP K "clear" "Switch.clear" s_Switch_clear (ma K (ga K "Switch") "clear") fd := T.c.def_ 20 (d := d_Switch_clear) rfl
theorem bi_Switch_clear {f : Addr} {fd : FuncData} (F : FnP K "clear" "Switch.clear" s_Switch_clear f fd) : Binds K fd ["self", "call", "person", "cause"] [] := F.bindsN fun _ _ _ _ _ _ us hl => match us, hl with | [_, _, _, _], _ => rfl
theorem fd_Switch_drop (T : Txt K mg) : ∃ fd, FnP K "drop" "Switch.drop" s_Switch_drop (ma K (ga K "Switch") "drop") fd := T.c.def_ 21 (d := d_Switch_drop) rfl
theorem bi_Switch_drop {f : Addr} {fd : FuncData} (F : FnP K "drop" "Switch.drop" s_Switch_drop f fd) : Binds K fd ["self", "call", "tick", "cause"] [] := F.bindsN fun _ _ _ _ _ _ us hl => match us, hl with | [_, _, _, _], _ => rfl
theorem fd_Switch_leave (T : Txt K mg) : ∃ fd, FnP K "leave" "Switch.leave" s_Switch_leave (ma K (ga K "Switch") "leave") fd := T.c.def_ 22 (d := d_Switch_leave) rfl
theorem bi_Switch_leave {f : Addr} {fd : FuncData} (F : FnP K "leave" "Switch.leave" s_Switch_leave f fd) : Binds K fd ["self", "person", "cause", "tick"] [] := F.bindsN fun _ _ _ _ _ _ us hl => match us, hl with | [_, _, _, _], _ => rfl
theorem fd_Switch_disconnect (T : Txt K mg) : ∃ fd, FnP K "disconnect" "Switch.disconnect" s_Switch_disconnect (ma K (ga K "Switch") "disconnect") fd := T.c.def_ 23 (d := d_Switch_disconnect) rfl
theorem bi_Switch_disconnect {f : Addr} {fd : FuncData} (F : FnP K "disconnect" "Switch.disconnect" s_Switch_disconnect f fd) : Binds K fd ["self", "person", "cause", "tick"] [] := F.bindsN fun _ _ _ _ _ _ us hl => match us, hl with | [_, _, _, _], _ => rfl
theorem fd_Switch_lost (T : Txt K mg) : ∃ fd, FnP K "lost" "Switch.lost" s_Switch_lost (ma K (ga K "Switch") "lost") fd := T.c.def_ 24 (d := d_Switch_lost) rfl
theorem bi_Switch_lost {f : Addr} {fd : FuncData} (F : FnP K "lost" "Switch.lost" s_Switch_lost f fd) : Binds K fd ["self", "person", "tick"] [] := F.bindsN fun _ _ _ _ _ _ us hl => match us, hl with | [_, _, _], _ => rfl
theorem fd_Switch_not_reached (T : Txt K mg) : ∃ fd, FnP K "not_reached" "Switch.not_reached" s_Switch_not_reached (ma K (ga K "Switch") "not_reached") fd := T.c.def_ 25 (d := d_Switch_not_reached) rfl
theorem bi_Switch_not_reached {f : Addr} {fd : FuncData} (F : FnP K "not_reached" "Switch.not_reached" s_Switch_not_reached f fd) : Binds K fd ["self", "call", "kind", "cause", "linked"] [] := F.bindsN fun _ _ _ _ _ _ us hl => match us, hl with | [_, _, _, _, _], _ => rfl
theorem fd_Switch_failed (T : Txt K mg) : ∃ fd, FnP K "failed" "Switch.failed" s_Switch_failed (ma K (ga K "Switch") "failed") fd := T.c.def_ 26 (d := d_Switch_failed) rfl
theorem bi_Switch_failed {f : Addr} {fd : FuncData} (F : FnP K "failed" "Switch.failed" s_Switch_failed f fd) : Binds K fd ["self", "person", "linked", "tick"] [] := F.bindsN fun _ _ _ _ _ _ us hl => match us, hl with | [_, _, _, _], _ => rfl
theorem fd_Switch_step (T : Txt K mg) : ∃ fd, FnP K "step" "Switch.step" s_Switch_step (ma K (ga K "Switch") "step") fd := T.c.def_ 27 (d := d_Switch_step) rfl
theorem bi_Switch_step {f : Addr} {fd : FuncData} (F : FnP K "step" "Switch.step" s_Switch_step f fd) : Binds K fd ["self", "linked", "tick"] [] := F.bindsN fun _ _ _ _ _ _ us hl => match us, hl with | [_, _, _], _ => rfl
theorem fd_Person_init (T : Txt K mg) : ∃ fd, FnP K "__init__" "Person.__init__" s_Person_init (ma K (ga K "Person") "__init__") fd := T.c.def_ 28 (d := d_Person_init) rfl
theorem bi_Person_init {f : Addr} {fd : FuncData} (F : FnP K "__init__" "Person.__init__" s_Person_init f fd) : Binds K fd ["self", "digits", "number"] [] := F.bindsN fun _ _ _ _ _ _ us hl => match us, hl with | [_, _, _], _ => rfl
theorem fd_Home_init (T : Txt K mg) : ∃ fd, FnP K "__init__" "Home.__init__" s_Home_init (ma K (ga K "Home") "__init__") fd := T.c.def_ 29 (d := d_Home_init) rfl
theorem bi_Home_init {f : Addr} {fd : FuncData} (F : FnP K "__init__" "Home.__init__" s_Home_init f fd) : Binds K fd ["self"] [] := F.bindsN fun _ _ _ _ _ _ us hl => match us, hl with | [_], _ => rfl
theorem fd_Home_add (T : Txt K mg) : ∃ fd, FnP K "add" "Home.add" s_Home_add (ma K (ga K "Home") "add") fd := T.c.def_ 30 (d := d_Home_add) rfl
theorem bi_Home_add {f : Addr} {fd : FuncData} (F : FnP K "add" "Home.add" s_Home_add f fd) : Binds K fd ["self", "digits", "number"] [] := F.bindsN fun _ _ _ _ _ _ us hl => match us, hl with | [_, _, _], _ => rfl
theorem fd_Home_find (T : Txt K mg) : ∃ fd, FnP K "find" "Home.find" s_Home_find (ma K (ga K "Home") "find") fd := T.c.def_ 31 (d := d_Home_find) rfl
theorem bi_Home_find {f : Addr} {fd : FuncData} (F : FnP K "find" "Home.find" s_Home_find f fd) : Binds K fd ["self", "person"] [] := F.bindsN fun _ _ _ _ _ _ us hl => match us, hl with | [_, _], _ => rfl
theorem fd_Home_with_digits (T : Txt K mg) : ∃ fd, FnP K "with_digits" "Home.with_digits" s_Home_with_digits (ma K (ga K "Home") "with_digits") fd := T.c.def_ 32 (d := d_Home_with_digits) rfl
theorem bi_Home_with_digits {f : Addr} {fd : FuncData} (F : FnP K "with_digits" "Home.with_digits" s_Home_with_digits f fd) : Binds K fd ["self", "digits"] [] := F.bindsN fun _ _ _ _ _ _ us hl => match us, hl with | [_, _], _ => rfl
theorem fd_Home_with_number (T : Txt K mg) : ∃ fd, FnP K "with_number" "Home.with_number" s_Home_with_number (ma K (ga K "Home") "with_number") fd := T.c.def_ 33 (d := d_Home_with_number) rfl
theorem bi_Home_with_number {f : Addr} {fd : FuncData} (F : FnP K "with_number" "Home.with_number" s_Home_with_number f fd) : Binds K fd ["self", "number"] [] := F.bindsN fun _ _ _ _ _ _ us hl => match us, hl with | [_, _], _ => rfl
theorem fd_Home_number (T : Txt K mg) : ∃ fd, FnP K "number" "Home.number" s_Home_number (ma K (ga K "Home") "number") fd := T.c.def_ 34 (d := d_Home_number) rfl
theorem bi_Home_number {f : Addr} {fd : FuncData} (F : FnP K "number" "Home.number" s_Home_number f fd) : Binds K fd ["self", "person"] [] := F.bindsN fun _ _ _ _ _ _ us hl => match us, hl with | [_, _], _ => rfl
theorem fd_Home_area (T : Txt K mg) : ∃ fd, FnP K "area" "Home.area" s_Home_area (ma K (ga K "Home") "area") fd := T.c.def_ 35 (d := d_Home_area) rfl
theorem bi_Home_area {f : Addr} {fd : FuncData} (F : FnP K "area" "Home.area" s_Home_area f fd) : Binds K fd ["self", "person"] [] := F.bindsN fun _ _ _ _ _ _ us hl => match us, hl with | [_, _], _ => rfl
theorem fd_Home_set_area (T : Txt K mg) : ∃ fd, FnP K "set_area" "Home.set_area" s_Home_set_area (ma K (ga K "Home") "set_area") fd := T.c.def_ 36 (d := d_Home_set_area) rfl
theorem bi_Home_set_area {f : Addr} {fd : FuncData} (F : FnP K "set_area" "Home.set_area" s_Home_set_area f fd) : Binds K fd ["self", "person", "area"] [] := F.bindsN fun _ _ _ _ _ _ us hl => match us, hl with | [_, _, _], _ => rfl
theorem fd_Home_forward (T : Txt K mg) : ∃ fd, FnP K "forward" "Home.forward" s_Home_forward (ma K (ga K "Home") "forward") fd := T.c.def_ 37 (d := d_Home_forward) rfl
theorem bi_Home_forward {f : Addr} {fd : FuncData} (F : FnP K "forward" "Home.forward" s_Home_forward f fd) : Binds K fd ["self", "person", "kind"] [] := F.bindsN fun _ _ _ _ _ _ us hl => match us, hl with | [_, _, _], _ => rfl
theorem fd_Home_set_forward (T : Txt K mg) : ∃ fd, FnP K "set_forward" "Home.set_forward" s_Home_set_forward (ma K (ga K "Home") "set_forward") fd := T.c.def_ 38 (d := d_Home_set_forward) rfl
theorem bi_Home_set_forward {f : Addr} {fd : FuncData} (F : FnP K "set_forward" "Home.set_forward" s_Home_set_forward f fd) : Binds K fd ["self", "person", "kind", "number"] [] := F.bindsN fun _ _ _ _ _ _ us hl => match us, hl with | [_, _, _, _], _ => rfl
theorem fd_PhoneCall_init (T : Txt K mg) : ∃ fd, FnP K "__init__" "PhoneCall.__init__" s_PhoneCall_init (ma K (ga K "PhoneCall") "__init__") fd := T.c.def_ 39 (d := d_PhoneCall_init) rfl
theorem bi_PhoneCall_init {f : Addr} {fd : FuncData} (F : FnP K "__init__" "PhoneCall.__init__" s_PhoneCall_init f fd) : Binds K fd ["self"] [] := F.bindsN fun _ _ _ _ _ _ us hl => match us, hl with | [_], _ => rfl
theorem fd_PhoneCall_begin (T : Txt K mg) : ∃ fd, FnP K "begin" "PhoneCall.begin" s_PhoneCall_begin (ma K (ga K "PhoneCall") "begin") fd := T.c.def_ 40 (d := d_PhoneCall_begin) rfl
theorem bi_PhoneCall_begin {f : Addr} {fd : FuncData} (F : FnP K "begin" "PhoneCall.begin" s_PhoneCall_begin f fd) : Binds K fd ["self", "state"] [] := F.bindsN fun _ _ _ _ _ _ us hl => match us, hl with | [_, _], _ => rfl
theorem fd_PhoneCall_dial (T : Txt K mg) : ∃ fd, FnP K "dial" "PhoneCall.dial" s_PhoneCall_dial (ma K (ga K "PhoneCall") "dial") fd := T.c.def_ 41 (d := d_PhoneCall_dial) rfl
theorem bi_PhoneCall_dial {f : Addr} {fd : FuncData} (F : FnP K "dial" "PhoneCall.dial" s_PhoneCall_dial f fd) : Binds K fd ["self", "number"] [] := F.bindsN fun _ _ _ _ _ _ us hl => match us, hl with | [_, _], _ => rfl
theorem fd_PhoneCall_take (T : Txt K mg) : ∃ fd, FnP K "take" "PhoneCall.take" s_PhoneCall_take (ma K (ga K "PhoneCall") "take") fd := T.c.def_ 42 (d := d_PhoneCall_take) rfl
theorem bi_PhoneCall_take {f : Addr} {fd : FuncData} (F : FnP K "take" "PhoneCall.take" s_PhoneCall_take f fd) : Binds K fd ["self", "message"] [] := F.bindsN fun _ _ _ _ _ _ us hl => match us, hl with | [_, _], _ => rfl
theorem fd_PhoneCall_take_disconnect (T : Txt K mg) : ∃ fd, FnP K "take_disconnect" "PhoneCall.take_disconnect" s_PhoneCall_take_disconnect (ma K (ga K "PhoneCall") "take_disconnect") fd := T.c.def_ 43 (d := d_PhoneCall_take_disconnect) rfl
theorem bi_PhoneCall_take_disconnect {f : Addr} {fd : FuncData} (F : FnP K "take_disconnect" "PhoneCall.take_disconnect" s_PhoneCall_take_disconnect f fd) : Binds K fd ["self", "cause"] [] := F.bindsN fun _ _ _ _ _ _ us hl => match us, hl with | [_, _], _ => rfl
theorem fd_PhoneCall_move (T : Txt K mg) : ∃ fd, FnP K "move" "PhoneCall.move" s_PhoneCall_move (ma K (ga K "PhoneCall") "move") fd := T.c.def_ 44 (d := d_PhoneCall_move) rfl
theorem bi_PhoneCall_move {f : Addr} {fd : FuncData} (F : FnP K "move" "PhoneCall.move" s_PhoneCall_move f fd) : Binds K fd ["self", "kind"] [] := F.bindsN fun _ _ _ _ _ _ us hl => match us, hl with | [_, _], _ => rfl
theorem fd_PhoneCall_answer (T : Txt K mg) : ∃ fd, FnP K "answer" "PhoneCall.answer" s_PhoneCall_answer (ma K (ga K "PhoneCall") "answer") fd := T.c.def_ 45 (d := d_PhoneCall_answer) rfl
theorem bi_PhoneCall_answer {f : Addr} {fd : FuncData} (F : FnP K "answer" "PhoneCall.answer" s_PhoneCall_answer f fd) : Binds K fd ["self"] [] := F.bindsN fun _ _ _ _ _ _ us hl => match us, hl with | [_], _ => rfl
theorem fd_PhoneCall_say (T : Txt K mg) : ∃ fd, FnP K "say" "PhoneCall.say" s_PhoneCall_say (ma K (ga K "PhoneCall") "say") fd := T.c.def_ 46 (d := d_PhoneCall_say) rfl
theorem bi_PhoneCall_say {f : Addr} {fd : FuncData} (F : FnP K "say" "PhoneCall.say" s_PhoneCall_say f fd) : Binds K fd ["self", "octets"] [] := F.bindsN fun _ _ _ _ _ _ us hl => match us, hl with | [_, _], _ => rfl
theorem fd_PhoneCall_hang (T : Txt K mg) : ∃ fd, FnP K "hang" "PhoneCall.hang" s_PhoneCall_hang (ma K (ga K "PhoneCall") "hang") fd := T.c.def_ 47 (d := d_PhoneCall_hang) rfl
theorem bi_PhoneCall_hang {f : Addr} {fd : FuncData} (F : FnP K "hang" "PhoneCall.hang" s_PhoneCall_hang f fd) : Binds K fd ["self", "reached"] [] := F.bindsN fun _ _ _ _ _ _ us hl => match us, hl with | [_, _], _ => rfl
theorem fd_PhoneCall_end (T : Txt K mg) : ∃ fd, FnP K "end" "PhoneCall.end" s_PhoneCall_end (ma K (ga K "PhoneCall") "end") fd := T.c.def_ 48 (d := d_PhoneCall_end) rfl
theorem bi_PhoneCall_end {f : Addr} {fd : FuncData} (F : FnP K "end" "PhoneCall.end" s_PhoneCall_end f fd) : Binds K fd ["self", "cause"] [] := F.bindsN fun _ _ _ _ _ _ us hl => match us, hl with | [_, _], _ => rfl
theorem fd_law_mixed (T : Txt K mg) : ∃ fd, FnP K "_law_mixed" "_law_mixed" s_law_mixed (ga K "_law_mixed") fd := T.c.def_ 49 (d := d_law_mixed) rfl
theorem bi_law_mixed {f : Addr} {fd : FuncData} (F : FnP K "_law_mixed" "_law_mixed" s_law_mixed f fd) : Binds K fd ["_law_cell_here", "_law_turn"] [] := F.bindsN fun _ _ _ _ _ _ us hl => match us, hl with | [_, _], _ => rfl
theorem fd_law_cell (T : Txt K mg) : ∃ fd, FnP K "_law_cell" "_law_cell" s_law_cell (ga K "_law_cell") fd := T.c.def_ 50 (d := d_law_cell) rfl
theorem bi_law_cell {f : Addr} {fd : FuncData} (F : FnP K "_law_cell" "_law_cell" s_law_cell f fd) : Binds K fd ["_law_script", "_law_k"] [] := F.bindsN fun _ _ _ _ _ _ us hl => match us, hl with | [_, _], _ => rfl
theorem fd_law_number (T : Txt K mg) : ∃ fd, FnP K "_law_number" "_law_number" s_law_number (ga K "_law_number") fd := T.c.def_ 51 (d := d_law_number) rfl
theorem bi_law_number {f : Addr} {fd : FuncData} (F : FnP K "_law_number" "_law_number" s_law_number f fd) : Binds K fd ["_law_script", "_law_k"] [] := F.bindsN fun _ _ _ _ _ _ us hl => match us, hl with | [_, _], _ => rfl
theorem fd_law_pick (T : Txt K mg) : ∃ fd, FnP K "_law_pick" "_law_pick" s_law_pick (ga K "_law_pick") fd := T.c.def_ 52 (d := d_law_pick) rfl
theorem bi_law_pick {f : Addr} {fd : FuncData} (F : FnP K "_law_pick" "_law_pick" s_law_pick f fd) : Binds K fd ["_law_numbers", "_law_digit"] [] := F.bindsN fun _ _ _ _ _ _ us hl => match us, hl with | [_, _], _ => rfl
theorem fd_law_home (T : Txt K mg) : ∃ fd, FnP K "_law_home" "_law_home" s_law_home (ga K "_law_home") fd := T.c.def_ 53 (d := d_law_home) rfl
theorem bi_law_home {f : Addr} {fd : FuncData} (F : FnP K "_law_home" "_law_home" s_law_home f fd) : Binds K fd ["_law_script", "_law_people"] [] := F.bindsN fun _ _ _ _ _ _ us hl => match us, hl with | [_, _], _ => rfl
theorem fd_law_linked (T : Txt K mg) : ∃ fd, FnP K "_law_linked" "_law_linked" s_law_linked (ga K "_law_linked") fd := T.c.def_ 54 (d := d_law_linked) rfl
theorem bi_law_linked {f : Addr} {fd : FuncData} (F : FnP K "_law_linked" "_law_linked" s_law_linked f fd) : Binds K fd ["_law_world"] [] := F.bindsN fun _ _ _ _ _ _ us hl => match us, hl with | [_], _ => rfl
theorem fd_law_link (T : Txt K mg) : ∃ fd, FnP K "_law_link" "_law_link" s_law_link (ga K "_law_link") fd := T.c.def_ 55 (d := d_law_link) rfl
theorem bi_law_link {f : Addr} {fd : FuncData} (F : FnP K "_law_link" "_law_link" s_law_link f fd) : Binds K fd ["_law_world", "_law_person", "_law_down_here"] [] := F.bindsN fun _ _ _ _ _ _ us hl => match us, hl with | [_, _, _], _ => rfl
theorem fd_law_unlink (T : Txt K mg) : ∃ fd, FnP K "_law_unlink" "_law_unlink" s_law_unlink (ga K "_law_unlink") fd := T.c.def_ 56 (d := d_law_unlink) rfl
theorem bi_law_unlink {f : Addr} {fd : FuncData} (F : FnP K "_law_unlink" "_law_unlink" s_law_unlink f fd) : Binds K fd ["_law_world", "_law_person", "_law_cause"] [] := F.bindsN fun _ _ _ _ _ _ us hl => match us, hl with | [_, _, _], _ => rfl
theorem fd_law_perform (T : Txt K mg) : ∃ fd, FnP K "_law_perform" "_law_perform" s_law_perform (ga K "_law_perform") fd := T.c.def_ 57 (d := d_law_perform) rfl
theorem bi_law_perform {f : Addr} {fd : FuncData} (F : FnP K "_law_perform" "_law_perform" s_law_perform f fd) : Binds K fd ["_law_world", "_law_actions"] [] := F.bindsN fun _ _ _ _ _ _ us hl => match us, hl with | [_, _], _ => rfl
theorem fd_law_up (T : Txt K mg) : ∃ fd, FnP K "_law_up" "_law_up" s_law_up (ga K "_law_up") fd := T.c.def_ 58 (d := d_law_up) rfl
theorem bi_law_up {f : Addr} {fd : FuncData} (F : FnP K "_law_up" "_law_up" s_law_up f fd) : Binds K fd ["_law_world", "_law_person", "_law_tick"] [] := F.bindsN fun _ _ _ _ _ _ us hl => match us, hl with | [_, _, _], _ => rfl
theorem fd_law_down (T : Txt K mg) : ∃ fd, FnP K "_law_down" "_law_down" s_law_down (ga K "_law_down") fd := T.c.def_ 59 (d := d_law_down) rfl
theorem bi_law_down {f : Addr} {fd : FuncData} (F : FnP K "_law_down" "_law_down" s_law_down f fd) : Binds K fd ["_law_world", "_law_person"] [] := F.bindsN fun _ _ _ _ _ _ us hl => match us, hl with | [_, _], _ => rfl
theorem fd_law_user (T : Txt K mg) : ∃ fd, FnP K "_law_user" "_law_user" s_law_user (ga K "_law_user") fd := T.c.def_ 60 (d := d_law_user) rfl
theorem bi_law_user {f : Addr} {fd : FuncData} (F : FnP K "_law_user" "_law_user" s_law_user f fd) : Binds K fd ["_law_world", "_law_person", "_law_value"] [] := F.bindsN fun _ _ _ _ _ _ us hl => match us, hl with | [_, _, _], _ => rfl
theorem fd_law_options (T : Txt K mg) : ∃ fd, FnP K "_law_options" "_law_options" s_law_options (ga K "_law_options") fd := T.c.def_ 61 (d := d_law_options) rfl
theorem bi_law_options {f : Addr} {fd : FuncData} (F : FnP K "_law_options" "_law_options" s_law_options f fd) : Binds K fd ["_law_world"] [] := F.bindsN fun _ _ _ _ _ _ us hl => match us, hl with | [_], _ => rfl
theorem fd_law_move (T : Txt K mg) : ∃ fd, FnP K "_law_move" "_law_move" s_law_move (ga K "_law_move") fd := T.c.def_ 62 (d := d_law_move) rfl
theorem bi_law_move {f : Addr} {fd : FuncData} (F : FnP K "_law_move" "_law_move" s_law_move f fd) : Binds K fd ["_law_world", "_law_value", "_law_tick"] [] := F.bindsN fun _ _ _ _ _ _ us hl => match us, hl with | [_, _, _], _ => rfl
theorem fd_law_ordered (T : Txt K mg) : ∃ fd, FnP K "_law_ordered" "_law_ordered" s_law_ordered (ga K "_law_ordered") fd := T.c.def_ 63 (d := d_law_ordered) rfl
theorem bi_law_ordered {f : Addr} {fd : FuncData} (F : FnP K "_law_ordered" "_law_ordered" s_law_ordered f fd) : Binds K fd ["_law_world", "_law_whole"] [] := F.bindsN fun _ _ _ _ _ _ us hl => match us, hl with | [_, _], _ => rfl
theorem fd_law (T : Txt K mg) : ∃ fd, FnP K "law" "law" s_law (ga K "law") fd := T.c.def_ 64 (d := d_law) rfl
theorem bi_law {f : Addr} {fd : FuncData} (F : FnP K "law" "law" s_law f fd) : Binds K fd ["_law_script"] [] := F.bindsN fun _ _ _ _ _ _ us hl => match us, hl with | [_], _ => rfl
theorem bi_NotNow_init {f : Addr} {fd : FuncData} (F : FnP K "__init__" "NotNow.__init__" s_NotNow_init f fd) : Binds K fd ["self", "what"] [] := F.bindsN fun _ _ _ _ _ _ us hl => match us, hl with | [_, _], _ => rfl
theorem bi_PhoneCall_heard {f : Addr} {fd : FuncData} (F : FnP K "heard" "PhoneCall.heard" s_PhoneCall_heard f fd) : Binds K fd ["self"] [] := F.bindsN fun _ _ _ _ _ _ us hl => match us, hl with | [_], _ => rfl
theorem bi_PhoneCall_said {f : Addr} {fd : FuncData} (F : FnP K "said" "PhoneCall.said" s_PhoneCall_said f fd) : Binds K fd ["self"] [] := F.bindsN fun _ _ _ _ _ _ us hl => match us, hl with | [_], _ => rfl
theorem bi_PhoneCall_state {f : Addr} {fd : FuncData} (F : FnP K "state" "PhoneCall.state" s_PhoneCall_state f fd) : Binds K fd ["self"] [] := F.bindsN fun _ _ _ _ _ _ us hl => match us, hl with | [_], _ => rfl
end
end Tx
end
section
set_option Elab.async false
set_option linter.all false
set_option maxRecDepth 100000
/-! The instances' fields. -/
namespace Fl
open PySem L2
def FBook (x0 : V) : List (Str × V) := [("rows", x0)]
section
variable {x0 v : V}
theorem gBook_rows : (FBook x0).lookup ("rows" : Str) = some x0 := by kernel_rfl
theorem pBook_rows : putF "rows" v (FBook x0) = FBook v := by kernel_rfl
theorem iBook : putF "rows" x0 ([] : List (Str × V)) = FBook x0 := by kernel_rfl
theorem mBook_begin : (FBook x0).lookup ("begin" : Str) = none := by kernel_rfl
theorem mBook_end : (FBook x0).lookup ("end" : Str) = none := by kernel_rfl
end
def FCall (x0 x1 x2 x3 x4 x5 : V) : List (Str × V) := [("caller", x0), ("called", x1), ("stage", x2), ("hops", x3), ("since", x4), ("line", x5)]
section
variable {x0 x1 x2 x3 x4 x5 v : V}
theorem gCall_caller : (FCall x0 x1 x2 x3 x4 x5).lookup ("caller" : Str) = some x0 := by kernel_rfl
theorem pCall_caller : putF "caller" v (FCall x0 x1 x2 x3 x4 x5) = FCall v x1 x2 x3 x4 x5 := by kernel_rfl
theorem gCall_called : (FCall x0 x1 x2 x3 x4 x5).lookup ("called" : Str) = some x1 := by kernel_rfl
theorem pCall_called : putF "called" v (FCall x0 x1 x2 x3 x4 x5) = FCall x0 v x2 x3 x4 x5 := by kernel_rfl
theorem gCall_stage : (FCall x0 x1 x2 x3 x4 x5).lookup ("stage" : Str) = some x2 := by kernel_rfl
theorem pCall_stage : putF "stage" v (FCall x0 x1 x2 x3 x4 x5) = FCall x0 x1 v x3 x4 x5 := by kernel_rfl
theorem gCall_hops : (FCall x0 x1 x2 x3 x4 x5).lookup ("hops" : Str) = some x3 := by kernel_rfl
theorem pCall_hops : putF "hops" v (FCall x0 x1 x2 x3 x4 x5) = FCall x0 x1 x2 v x4 x5 := by kernel_rfl
theorem gCall_since : (FCall x0 x1 x2 x3 x4 x5).lookup ("since" : Str) = some x4 := by kernel_rfl
theorem pCall_since : putF "since" v (FCall x0 x1 x2 x3 x4 x5) = FCall x0 x1 x2 x3 v x5 := by kernel_rfl
theorem gCall_line : (FCall x0 x1 x2 x3 x4 x5).lookup ("line" : Str) = some x5 := by kernel_rfl
theorem pCall_line : putF "line" v (FCall x0 x1 x2 x3 x4 x5) = FCall x0 x1 x2 x3 x4 v := by kernel_rfl
theorem iCall : putF "line" x5 (putF "since" x4 (putF "hops" x3 (putF "stage" x2 (putF "called" x1 (putF "caller" x0 ([] : List (Str × V))))))) = FCall x0 x1 x2 x3 x4 x5 := by kernel_rfl
theorem mCall_other : (FCall x0 x1 x2 x3 x4 x5).lookup ("other" : Str) = none := by kernel_rfl
end
def FSwitch (x0 x1 x2 : V) : List (Str × V) := [("home", x0), ("book", x1), ("rows", x2)]
section
variable {x0 x1 x2 v : V}
theorem gSwitch_home : (FSwitch x0 x1 x2).lookup ("home" : Str) = some x0 := by kernel_rfl
theorem pSwitch_home : putF "home" v (FSwitch x0 x1 x2) = FSwitch v x1 x2 := by kernel_rfl
theorem gSwitch_book : (FSwitch x0 x1 x2).lookup ("book" : Str) = some x1 := by kernel_rfl
theorem pSwitch_book : putF "book" v (FSwitch x0 x1 x2) = FSwitch x0 v x2 := by kernel_rfl
theorem gSwitch_rows : (FSwitch x0 x1 x2).lookup ("rows" : Str) = some x2 := by kernel_rfl
theorem pSwitch_rows : putF "rows" v (FSwitch x0 x1 x2) = FSwitch x0 x1 v := by kernel_rfl
theorem iSwitch : putF "rows" x2 (putF "book" x1 (putF "home" x0 ([] : List (Str × V)))) = FSwitch x0 x1 x2 := by kernel_rfl
theorem mSwitch_find : (FSwitch x0 x1 x2).lookup ("find" : Str) = none := by kernel_rfl
theorem mSwitch_called_in : (FSwitch x0 x1 x2).lookup ("called_in" : Str) = none := by kernel_rfl
theorem mSwitch_sides : (FSwitch x0 x1 x2).lookup ("sides" : Str) = none := by kernel_rfl
theorem mSwitch_calls : (FSwitch x0 x1 x2).lookup ("calls" : Str) = none := by kernel_rfl
theorem mSwitch_is_leg : (FSwitch x0 x1 x2).lookup ("is_leg" : Str) = none := by kernel_rfl
theorem mSwitch_start : (FSwitch x0 x1 x2).lookup ("start" : Str) = none := by kernel_rfl
theorem mSwitch_answered : (FSwitch x0 x1 x2).lookup ("answered" : Str) = none := by kernel_rfl
theorem mSwitch_alerting : (FSwitch x0 x1 x2).lookup ("alerting" : Str) = none := by kernel_rfl
theorem mSwitch_connect : (FSwitch x0 x1 x2).lookup ("connect" : Str) = none := by kernel_rfl
theorem mSwitch_connected : (FSwitch x0 x1 x2).lookup ("connected" : Str) = none := by kernel_rfl
theorem mSwitch_word : (FSwitch x0 x1 x2).lookup ("word" : Str) = none := by kernel_rfl
theorem mSwitch_clear : (FSwitch x0 x1 x2).lookup ("clear" : Str) = none := by kernel_rfl
theorem mSwitch_drop : (FSwitch x0 x1 x2).lookup ("drop" : Str) = none := by kernel_rfl
theorem mSwitch_leave : (FSwitch x0 x1 x2).lookup ("leave" : Str) = none := by kernel_rfl
theorem mSwitch_disconnect : (FSwitch x0 x1 x2).lookup ("disconnect" : Str) = none := by kernel_rfl
theorem mSwitch_lost : (FSwitch x0 x1 x2).lookup ("lost" : Str) = none := by kernel_rfl
theorem mSwitch_not_reached : (FSwitch x0 x1 x2).lookup ("not_reached" : Str) = none := by kernel_rfl
theorem mSwitch_failed : (FSwitch x0 x1 x2).lookup ("failed" : Str) = none := by kernel_rfl
theorem mSwitch_step : (FSwitch x0 x1 x2).lookup ("step" : Str) = none := by kernel_rfl
end
def FPerson (x0 x1 x2 x3 : V) : List (Str × V) := [("digits", x0), ("number", x1), ("area", x2), ("numbers", x3)]
section
variable {x0 x1 x2 x3 v : V}
theorem gPerson_digits : (FPerson x0 x1 x2 x3).lookup ("digits" : Str) = some x0 := by kernel_rfl
theorem pPerson_digits : putF "digits" v (FPerson x0 x1 x2 x3) = FPerson v x1 x2 x3 := by kernel_rfl
theorem gPerson_number : (FPerson x0 x1 x2 x3).lookup ("number" : Str) = some x1 := by kernel_rfl
theorem pPerson_number : putF "number" v (FPerson x0 x1 x2 x3) = FPerson x0 v x2 x3 := by kernel_rfl
theorem gPerson_area : (FPerson x0 x1 x2 x3).lookup ("area" : Str) = some x2 := by kernel_rfl
theorem pPerson_area : putF "area" v (FPerson x0 x1 x2 x3) = FPerson x0 x1 v x3 := by kernel_rfl
theorem gPerson_numbers : (FPerson x0 x1 x2 x3).lookup ("numbers" : Str) = some x3 := by kernel_rfl
theorem pPerson_numbers : putF "numbers" v (FPerson x0 x1 x2 x3) = FPerson x0 x1 x2 v := by kernel_rfl
theorem iPerson : putF "numbers" x3 (putF "area" x2 (putF "number" x1 (putF "digits" x0 ([] : List (Str × V))))) = FPerson x0 x1 x2 x3 := by kernel_rfl
end
def FHome (x0 : V) : List (Str × V) := [("rows", x0)]
section
variable {x0 v : V}
theorem gHome_rows : (FHome x0).lookup ("rows" : Str) = some x0 := by kernel_rfl
theorem pHome_rows : putF "rows" v (FHome x0) = FHome v := by kernel_rfl
theorem iHome : putF "rows" x0 ([] : List (Str × V)) = FHome x0 := by kernel_rfl
theorem mHome_add : (FHome x0).lookup ("add" : Str) = none := by kernel_rfl
theorem mHome_find : (FHome x0).lookup ("find" : Str) = none := by kernel_rfl
theorem mHome_with_digits : (FHome x0).lookup ("with_digits" : Str) = none := by kernel_rfl
theorem mHome_with_number : (FHome x0).lookup ("with_number" : Str) = none := by kernel_rfl
theorem mHome_number : (FHome x0).lookup ("number" : Str) = none := by kernel_rfl
theorem mHome_area : (FHome x0).lookup ("area" : Str) = none := by kernel_rfl
theorem mHome_set_area : (FHome x0).lookup ("set_area" : Str) = none := by kernel_rfl
theorem mHome_forward : (FHome x0).lookup ("forward" : Str) = none := by kernel_rfl
theorem mHome_set_forward : (FHome x0).lookup ("set_forward" : Str) = none := by kernel_rfl
end
def FPhoneCall (x0 x1 x2 x3 x4 x5 : V) : List (Str × V) := [("now", x0), ("reason", x1), ("number", x2), ("marked", x3), ("words_said", x4), ("words_heard", x5)]
section
variable {x0 x1 x2 x3 x4 x5 v : V}
theorem gPhoneCall_now : (FPhoneCall x0 x1 x2 x3 x4 x5).lookup ("now" : Str) = some x0 := by kernel_rfl
theorem pPhoneCall_now : putF "now" v (FPhoneCall x0 x1 x2 x3 x4 x5) = FPhoneCall v x1 x2 x3 x4 x5 := by kernel_rfl
theorem gPhoneCall_reason : (FPhoneCall x0 x1 x2 x3 x4 x5).lookup ("reason" : Str) = some x1 := by kernel_rfl
theorem pPhoneCall_reason : putF "reason" v (FPhoneCall x0 x1 x2 x3 x4 x5) = FPhoneCall x0 v x2 x3 x4 x5 := by kernel_rfl
theorem gPhoneCall_number : (FPhoneCall x0 x1 x2 x3 x4 x5).lookup ("number" : Str) = some x2 := by kernel_rfl
theorem pPhoneCall_number : putF "number" v (FPhoneCall x0 x1 x2 x3 x4 x5) = FPhoneCall x0 x1 v x3 x4 x5 := by kernel_rfl
theorem gPhoneCall_marked : (FPhoneCall x0 x1 x2 x3 x4 x5).lookup ("marked" : Str) = some x3 := by kernel_rfl
theorem pPhoneCall_marked : putF "marked" v (FPhoneCall x0 x1 x2 x3 x4 x5) = FPhoneCall x0 x1 x2 v x4 x5 := by kernel_rfl
theorem gPhoneCall_words_said : (FPhoneCall x0 x1 x2 x3 x4 x5).lookup ("words_said" : Str) = some x4 := by kernel_rfl
theorem pPhoneCall_words_said : putF "words_said" v (FPhoneCall x0 x1 x2 x3 x4 x5) = FPhoneCall x0 x1 x2 x3 v x5 := by kernel_rfl
theorem gPhoneCall_words_heard : (FPhoneCall x0 x1 x2 x3 x4 x5).lookup ("words_heard" : Str) = some x5 := by kernel_rfl
theorem pPhoneCall_words_heard : putF "words_heard" v (FPhoneCall x0 x1 x2 x3 x4 x5) = FPhoneCall x0 x1 x2 x3 x4 v := by kernel_rfl
theorem iPhoneCall : putF "words_heard" x5 (putF "words_said" x4 (putF "marked" x3 (putF "number" x2 (putF "reason" x1 (putF "now" x0 ([] : List (Str × V))))))) = FPhoneCall x0 x1 x2 x3 x4 x5 := by kernel_rfl
theorem mPhoneCall_begin : (FPhoneCall x0 x1 x2 x3 x4 x5).lookup ("begin" : Str) = none := by kernel_rfl
theorem mPhoneCall_dial : (FPhoneCall x0 x1 x2 x3 x4 x5).lookup ("dial" : Str) = none := by kernel_rfl
theorem mPhoneCall_take : (FPhoneCall x0 x1 x2 x3 x4 x5).lookup ("take" : Str) = none := by kernel_rfl
theorem mPhoneCall_take_disconnect : (FPhoneCall x0 x1 x2 x3 x4 x5).lookup ("take_disconnect" : Str) = none := by kernel_rfl
theorem mPhoneCall_move : (FPhoneCall x0 x1 x2 x3 x4 x5).lookup ("move" : Str) = none := by kernel_rfl
theorem mPhoneCall_answer : (FPhoneCall x0 x1 x2 x3 x4 x5).lookup ("answer" : Str) = none := by kernel_rfl
theorem mPhoneCall_say : (FPhoneCall x0 x1 x2 x3 x4 x5).lookup ("say" : Str) = none := by kernel_rfl
theorem mPhoneCall_hang : (FPhoneCall x0 x1 x2 x3 x4 x5).lookup ("hang" : Str) = none := by kernel_rfl
theorem mPhoneCall_end : (FPhoneCall x0 x1 x2 x3 x4 x5).lookup ("end" : Str) = none := by kernel_rfl
end
end Fl
end
section
set_option Elab.async false
set_option linter.all false
set_option maxRecDepth 100000
/-! The network in the heap. -/
namespace Wl
open PySem L2 He Mth Fl
def nwS : Nw → Str
  | .idle => "idle"
  | .starting => "starting"
  | .looking => "looking"
  | .alerting => "alerting"
  | .active => "active"
  | .ringing => "ringing"
  | .clearing => "clearing"
def sgS : Sg → Str
  | .looking => "looking"
  | .offered => "offered"
  | .ringing => "ringing"
  | .answered => "answered"
  | .active => "active"
def kindS : Msg → Str
  | .setup _ => "setup"
  | .proceeding => "proceeding"
  | .alerting => "alerting"
  | .connect => "connect"
  | .cdone => "connect done"
  | .disc _ => "disconnect"
  | .word _ => "word"
  | .sacc => "service accept"
  | .rel => "release"
def restV : Msg → List V
  | .setup v => [v]
  | .disc c => [c]
  | .word w => [w]
  | _ => []
def msgV (x : Msg) : List V := .str (kindS x) :: restV x
/-- a number, or none -/
def NumV (v : V) : Prop := v = .non ∨ ∃ z, v = .str z
/-- a word: two ints -/
def WordV (B : Hp) (v : V) : Prop := ∃ a x y, v = .ref a ∧ B a = some (.tup [.int x, .int y])
def MsgFine (B : Hp) : Msg → Prop
  | .setup v => NumV v
  | .word w => WordV B w
  | .disc c => ∃ j : Int, c = .int j
  | _ => True
structure MsgAt (B : Hp) (a : Addr) (x : Msg) : Prop where
  at_ : B a = some (.tup (msgV x))
  fine : MsgFine B x
/-- a queue of messages -/
abbrev QAt (B : Hp) (as : List Addr) (xs : List Msg) : Prop := Paired (MsgAt B) as xs
/-- a row of the book: open or closed -/
def RowAt (B : Hp) (a : Addr) (b : Bool) : Prop := ∃ x y z t u, B a = some (.tup [x, y, z, t, u]) ∧ ((t = .non) ↔ b = true) ∧ (t = .non ∨ ∃ i, t = .int i)
theorem NumV.mono {v : V} (h : NumV v) : NumV v := h
theorem WordV.mono {B B' : Hp} {v : V} (s : Same B B') (h : WordV B v) : WordV B' v := by
  obtain ⟨a, x, y, e, k⟩ := h
  exact ⟨a, x, y, e, s _ _ k⟩
theorem MsgFine.mono {B B' : Hp} {x : Msg} (s : Same B B') (h : MsgFine B x) : MsgFine B' x := by
  cases x with
  | word w => exact WordV.mono s h
  | setup v => exact h
  | disc c => exact h
  | _ => trivial
theorem MsgAt.mono {B B' : Hp} {a : Addr} {x : Msg} (s : Same B B') (h : MsgAt B a x) : MsgAt B' a x := ⟨s _ _ h.at_, h.fine.mono s⟩
theorem all2_mono {α β : Type} {P Q : α → β → Prop} (h : ∀ a b, P a b → Q a b) : ∀ {as : List α} {bs : List β}, Paired P as bs → Paired Q as bs
  | _, _, .nil => .nil
  | _, _, .cons r t => .cons (h _ _ r) (all2_mono h t)
theorem all2_app {α β : Type} {P : α → β → Prop} : ∀ {as as' : List α} {bs bs' : List β}, Paired P as bs → Paired P as' bs' → Paired P (as ++ as') (bs ++ bs')
  | _, _, _, _, .nil, k => k
  | _, _, _, _, .cons r t, k => .cons r (all2_app t k)
theorem all2_len {α β : Type} {P : α → β → Prop} : ∀ {as : List α} {bs : List β}, Paired P as bs → as.length = bs.length
  | _, _, .nil => rfl
  | _, _, .cons _ t => congrArg (· + 1) (all2_len t)
theorem all2_get {α β : Type} {P : α → β → Prop} : ∀ {as : List α} {bs : List β} {i : Nat} {b : β}, Paired P as bs → bs[i]? = some b → ∃ a, as[i]? = some a ∧ P a b
  | _, _, i, b, .nil, e => by simp at e
  | _, _, 0, b, .cons r _, e => by
    simp at e
    subst e
    exact ⟨_, rfl, r⟩
  | _, _, i + 1, b, .cons _ t, e => by
    obtain ⟨a, h1, h2⟩ := all2_get (i := i) (b := b) t (by simpa using e)
    exact ⟨a, by simpa using h1, h2⟩
theorem all2_set {α β : Type} {P : α → β → Prop} : ∀ {as : List α} {bs : List β} (i : Nat) {a : α} {b : β}, Paired P as bs → P a b → Paired P (as.set i a) (bs.set i b)
  | _, _, _, _, _, .nil, _ => .nil
  | _, _, 0, _, _, .cons _ t, k => .cons k t
  | _, _, i + 1, _, _, .cons r t, k => .cons r (all2_set i t k)
/-! ### fixed places, roles, layout -/
structure Fx where
  n : Nat
  wd : Addr
  nums : Addr
  calls : Addr
  li : Addr
  re : Addr
  pa : Addr
  up : Addr
  dn : Addr
  sw : Addr
  bk : Addr
  bkr : Addr
  home : Addr
  ph : Nat → Addr
inductive Ro | li | re | pa | up | dn | upq (i : Nat) | dnq (i : Nat) | ph (i : Nat) | sd (i : Nat) | hd (i : Nat) | sw | rows | bk | bkr | call (a : Addr) deriving DecidableEq
structure Lay where
  ad : Ro → Addr
  dx : Ro → Addr
  upA : Nat → List Addr
  dnA : Nat → List Addr
  bkA : List Addr
def natV (n : Nat) : V := .int (n : Int)
def optV : Option Nat → V
  | some n => natV n
  | none => .non
def rng (n : Nat) (f : Nat → V) : List V := (List.range n).map f
def phF (d : Pd) (s h : Addr) : List (Str × V) := FPhoneCall (.str (nwS d.now)) d.rs d.num (.bl d.mkd) (.ref s) (.ref h)
def clF (c : Cl) : List (Str × V) := FCall (natV c.cr) (optV c.cd) (.str (sgS c.st)) (.int c.hops) (.int c.since) (optV c.line)
/-- what stands at a role's place -/
def obj (K : PySem.W.Frag) (F : Fx) (L : Lay) (m : M) : Ro → Option HO
  | .li => some (.lst (rng F.n fun i => .bl (m.pd i).li))
  | .re => some (.lst (rng F.n fun i => .bl (m.pd i).re))
  | .pa => some (.lst (rng F.n fun i => .bl (m.pd i).pa))
  | .up => some (.lst (rng F.n fun i => .ref (L.ad (.upq i))))
  | .dn => some (.lst (rng F.n fun i => .ref (L.ad (.dnq i))))
  | .upq i => if i < F.n then some (.lst ((L.upA i).map V.ref)) else none
  | .dnq i => if i < F.n then some (.lst ((L.dnA i).map V.ref)) else none
  | .ph i => if i < F.n then some (.ins (ga K "PhoneCall") (L.dx (.ph i)) (phF (m.pd i) (L.ad (.sd i)) (L.ad (.hd i)))) else none
  | .sd i => if i < F.n then some (.lst (m.pd i).said) else none
  | .hd i => if i < F.n then some (.lst (m.pd i).heard) else none
  | .sw => some (.ins (ga K "Switch") (L.dx .sw) (FSwitch (.ref F.home) (.ref F.bk) (.ref (L.ad .rows))))
  | .rows => some (.lst (m.cs.map fun c => .ref c.ad))
  | .bk => some (.ins (ga K "Book") (L.dx .bk) (FBook (.ref F.bkr)))
  | .bkr => some (.lst (L.bkA.map V.ref))
  | .call a => (m.cs.find? fun c => decide (c.ad = a)).map fun c => .ins (ga K "Call") (L.dx (.call a)) (clF c)
/-- a person of the home -/
def PersonAt (K : PySem.W.Frag) (H : Hp) (p : Addr) : Prop := ∃ dx d z ar nd kvs, H p = some (.ins (ga K "Person") dx (FPerson (.str d) (.str z) ar (.ref nd))) ∧ H nd = some (.dK kvs) ∧ (∀ k v, valV kvs k = some v → NumV v) ∧ (ar = .non ∨ ∃ i, ar = .int i)
def HomeAt (K : PySem.W.Frag) (H : Hp) (home : Addr) (n : Nat) : Prop := ∃ (dx rl : Addr) (ps : List Addr), H home = some (.ins (ga K "Home") dx (FHome (.ref rl))) ∧ H rl = some (.lst (ps.map V.ref)) ∧ ps.length = n ∧ ∀ p ∈ ps, PersonAt K H p
theorem HomeAt.mono {K : PySem.W.Frag} {H H' : Hp} {home : Addr} {n : Nat} (s : Same H H') (h : HomeAt K H home n) : HomeAt K H' home n := by
  obtain ⟨dx, rl, ps, h1, h2, h3, h4⟩ := h
  refine ⟨dx, rl, ps, s _ _ h1, s _ _ h2, h3, fun p hp => ?_⟩
  obtain ⟨dx, d, z, ar, nd, kvs, k1, k2, k3, k4⟩ := h4 p hp
  exact ⟨dx, d, z, ar, nd, kvs, s _ _ k1, s _ _ k2, k3, k4⟩
def wdF (F : Fx) : List (Key × V) := [(.inr "numbers", .ref F.nums), (.inr "switch", .ref F.sw), (.inr "calls", .ref F.calls), (.inr "linked", .ref F.li), (.inr "released", .ref F.re), (.inr "up", .ref F.up), (.inr "down", .ref F.dn), (.inr "paged", .ref F.pa)]
/-- what never changes -/
structure Base (K : PySem.W.Frag) (F : Fx) (B : Hp) : Prop where
  wd : B F.wd = some (.dK (wdF F))
  nums : ∃ zs : List Str, B F.nums = some (.lst (zs.map V.str)) ∧ zs.length = F.n
  calls : B F.calls = some (.lst (rng F.n fun i => .ref (F.ph i)))
  home : HomeAt K B F.home F.n
  two : 2 ≤ F.n
  five : F.n ≤ 5
theorem Base.mono {K : PySem.W.Frag} {F : Fx} {B B' : Hp} (s : Same B B') (h : Base K F B) : Base K F B' := by
  obtain ⟨zs, h1, h2⟩ := h.nums
  exact ⟨s _ _ h.wd, ⟨zs, s _ _ h1, h2⟩, s _ _ h.calls, h.home.mono s, h.two, h.five⟩
/-- a person's values are what they should be -/
structure PdFine (B : Hp) (up dn : List Addr) (d : Pd) : Prop where
  up : QAt B up d.up
  dn : QAt B dn d.dn
  said : ∀ v ∈ d.said, WordV B v
  heard : ∀ v ∈ d.heard, WordV B v
  num : NumV d.num
theorem PdFine.mono {B B' : Hp} {up dn : List Addr} {d : Pd} (s : Same B B') (h : PdFine B up dn d) : PdFine B' up dn d :=
  ⟨all2_mono (fun _ _ k => k.mono s) h.up, all2_mono (fun _ _ k => k.mono s) h.dn, fun v hv => (h.said v hv).mono s, fun v hv => (h.heard v hv).mono s, h.num⟩
/-- the places that never move -/
structure Fixed (F : Fx) (L : Lay) : Prop where
  li : L.ad .li = F.li
  re : L.ad .re = F.re
  pa : L.ad .pa = F.pa
  up : L.ad .up = F.up
  dn : L.ad .dn = F.dn
  sw : L.ad .sw = F.sw
  bk : L.ad .bk = F.bk
  bkr : L.ad .bkr = F.bkr
  ph : ∀ i, L.ad (.ph i) = F.ph i
  call : ∀ a, L.ad (.call a) = a
/-- the network m stands in the heap H, by the layout L, over what stays (B) -/
structure WL (K : PySem.W.Frag) (F : Fx) (B : Hp) (L : Lay) (m : M) (H : Hp) : Prop where
  same : Same B H
  objs : ∀ r o, obj K F L m r = some o → H (L.ad r) = some o
  inj : ∀ r r' o o', obj K F L m r = some o → obj K F L m r' = some o' → L.ad r = L.ad r' → r = r'
  out : ∀ r o, obj K F L m r = some o → B (L.ad r) = none
  fix : Fixed F L
  base : Base K F B
  fine : ∀ i, i < F.n → PdFine B (L.upA i) (L.dnA i) (m.pd i)
  book : Paired (RowAt B) L.bkA m.bk
  ads : Ads m.cs
def Wd (K : PySem.W.Frag) (F : Fx) (B : Hp) (m : M) (H : Hp) : Prop := ∃ L, WL K F B L m H
section
variable {K : PySem.W.Frag} {F : Fx} {B B' H H' : Hp} {L L' : Lay} {m m' : M}
/-- the heap grows -/
theorem WL.grow (h : WL K F B L m H) (s : Same H H') : WL K F B L m H' := { h with same := h.same.trans s, objs := fun r o e => s _ _ (h.objs r o e) }
theorem same_upd {p : Addr} {o : HO} (np : H p = none) : Same H (upd H p o) := fun b u e => by
  rw [upd_ne (ne_of_none e np)]
  exact e
/-- a new thing that stays -/
theorem WL.imm (h : WL K F B L m H) {p : Addr} (np : H p = none) (o : HO) : WL K F (upd B p o) L m (upd H p o) ∧ Same B (upd B p o) := by
  have nb : B p = none := h.same.free np
  have sB := same_upd (o := o) nb
  refine ⟨⟨fun b u e => ?_, fun r u e => ?_, h.inj, fun r u e => ?_, h.fix, h.base.mono sB, fun i hi => (h.fine i hi).mono sB, all2_mono (fun a b k => ?_) h.book, h.ads⟩, sB⟩
  · by_cases z : b = p
    · rw [z, upd_same] at e
      rw [z, upd_same]
      exact e
    · rw [upd_ne z] at e
      rw [upd_ne z]
      exact h.same _ _ e
  · rw [upd_ne (ne_of_none (h.objs r u e) np)]
    exact h.objs r u e
  · rw [upd_ne (ne_of_none (h.objs r u e) np)]
    exact h.out r u e
  · obtain ⟨x, y, z, t, u, k1, k2⟩ := k
    exact ⟨x, y, z, t, u, sB _ _ k1, k2⟩
theorem Wd.imm (h : Wd K F B m H) {p : Addr} (np : H p = none) (o : HO) : ∃ B', Same B B' ∧ Wd K F B' m (upd H p o) ∧ B' p = some o := by
  obtain ⟨L, h⟩ := h
  obtain ⟨h1, h2⟩ := h.imm np o
  exact ⟨_, h2, ⟨L, h1⟩, upd_same⟩
/-- p is no place of the network, and not of what stays -/
def Fr (K : PySem.W.Frag) (F : Fx) (B : Hp) (L : Lay) (m : M) (p : Addr) : Prop := B p = none ∧ ∀ q w, obj K F L m q = some w → L.ad q ≠ p
theorem WL.fr (h : WL K F B L m H) {p : Addr} (np : H p = none) : Fr K F B L m p := ⟨h.same.free np, fun q w e z => by
  rw [← z, h.objs q w e] at np
  cases np⟩
/-- a role's object changes in its place -/
theorem WL.put (h : WL K F B L m H) {r : Ro} {o u : HO} (e : obj K F L m r = some u) (ha : L'.ad = L.ad) (ho : obj K F L' m' r = some o) (hs : ∀ q w, q ≠ r → obj K F L' m' q = some w → obj K F L m q = some w)
    (hf : ∀ i, i < F.n → PdFine B (L'.upA i) (L'.dnA i) (m'.pd i)) (hb : Paired (RowAt B) L'.bkA m'.bk) (hA : Ads m'.cs) : WL K F B L' m' (upd H (L.ad r) o) := by
  have live : ∀ q w, obj K F L' m' q = some w → ∃ w', obj K F L m q = some w' := fun q w ew => by
    by_cases z : q = r
    · exact ⟨u, z ▸ e⟩
    · exact ⟨w, hs q w z ew⟩
  have fx : Fixed F L' := by
    obtain ⟨f1, f2, f3, f4, f5, f6, f7, f8, f9, f10⟩ := h.fix
    constructor <;> (intros; rw [ha]; simp only [*])
  refine ⟨fun b w eb => ?_, fun q w ew => ?_, fun q q' w w' e1 e2 e3 => ?_, fun q w ew => ?_, fx, h.base, hf, hb, hA⟩
  · have ne : b ≠ L.ad r := fun z => by
      rw [z, h.out r u e] at eb
      cases eb
    rw [upd_ne ne]
    exact h.same _ _ eb
  · rw [ha]
    by_cases z : q = r
    · subst z
      rw [ho] at ew
      cases ew
      exact upd_same
    · have ew := hs q w z ew
      have ne : L.ad q ≠ L.ad r := fun y => z (h.inj q r w u ew e y)
      rw [upd_ne ne]
      exact h.objs q w ew
  · obtain ⟨v1, k1⟩ := live q w e1
    obtain ⟨v2, k2⟩ := live q' w' e2
    rw [ha] at e3
    exact h.inj q q' v1 v2 k1 k2 e3
  · obtain ⟨v1, k1⟩ := live q w ew
    rw [ha]
    exact h.out q v1 k1
/-- p stays free of the network -/
theorem Fr.put {p : Addr} (f : Fr K F B L m p) {r : Ro} {u : HO} (e : obj K F L m r = some u) (ha : L'.ad = L.ad) (hs : ∀ q w, q ≠ r → obj K F L' m' q = some w → obj K F L m q = some w) : Fr K F B L' m' p := ⟨f.1, fun q w ew => by
  rw [ha]
  by_cases z : q = r
  · rw [z]
    exact f.2 r u e
  · exact f.2 q w (hs q w z ew)⟩
/-- a role gets a new place p, and an object there; another role's object (that names it) changes in its place -/
theorem WL.new (h : WL K F B L m H) {H1 : Hp} {p : Addr} {r q0 : Ro} {o o2 u2 : HO} (s : Same H H1) (fr : Fr K F B L m p) (hp : H1 p = some o) (nr : q0 ≠ r) (e2 : obj K F L m q0 = some u2) (ha : L'.ad r = p) (ha2 : ∀ q, q ≠ r → L'.ad q = L.ad q)
    (fx : Fixed F L') (ho : obj K F L' m' r = some o) (ho2 : obj K F L' m' q0 = some o2) (hs : ∀ q w, q ≠ r → q ≠ q0 → obj K F L' m' q = some w → obj K F L m q = some w)
    (hf : ∀ i, i < F.n → PdFine B (L'.upA i) (L'.dnA i) (m'.pd i)) (hb : Paired (RowAt B) L'.bkA m'.bk) (hA : Ads m'.cs) : WL K F B L' m' (upd H1 (L.ad q0) o2) := by
  have live : ∀ q w, q ≠ r → obj K F L' m' q = some w → ∃ w', obj K F L m q = some w' := fun q w zr ew => by
    by_cases z : q = q0
    · exact ⟨u2, z ▸ e2⟩
    · exact ⟨w, hs q w zr z ew⟩
  have np2 : p ≠ L.ad q0 := fun z => fr.2 q0 u2 e2 z.symm
  have far : ∀ q w, q ≠ r → obj K F L' m' q = some w → L.ad q ≠ p := fun q w zr ew z => by
    obtain ⟨w', k⟩ := live q w zr ew
    exact fr.2 q w' k z
  refine ⟨fun b w eb => ?_, fun q w ew => ?_, fun q q' w w' k1 k2 k3 => ?_, fun q w ew => ?_, fx, h.base, hf, hb, hA⟩
  · have ne : b ≠ L.ad q0 := fun z => by
      rw [z, h.out q0 u2 e2] at eb
      cases eb
    rw [upd_ne ne]
    exact s _ _ (h.same _ _ eb)
  · by_cases z : q = r
    · rw [z, ha, upd_ne np2, hp]
      rw [z, ho] at ew
      exact ew
    · rw [ha2 q z]
      by_cases z2 : q = q0
      · rw [z2, upd_same]
        rw [z2, ho2] at ew
        exact ew
      · have ew2 := hs q w z z2 ew
        have ne : L.ad q ≠ L.ad q0 := fun y => z2 (h.inj q q0 w u2 ew2 e2 y)
        rw [upd_ne ne]
        exact s _ _ (h.objs q w ew2)
  · by_cases z : q = r <;> by_cases z' : q' = r
    · rw [z, z']
    · rw [z, ha, ha2 q' z'] at k3
      exact absurd k3.symm (far q' w' z' k2)
    · rw [z', ha, ha2 q z] at k3
      exact absurd k3 (far q w z k1)
    · rw [ha2 q z, ha2 q' z'] at k3
      obtain ⟨v1, y1⟩ := live q w z k1
      obtain ⟨v2, y2⟩ := live q' w' z' k2
      exact h.inj q q' v1 v2 y1 y2 k3
  · by_cases z : q = r
    · rw [z, ha]
      exact fr.1
    · obtain ⟨v1, y1⟩ := live q w z ew
      rw [ha2 q z]
      exact h.out q v1 y1
/-- another place stays free -/
theorem Fr.new {p p2 : Addr} (f : Fr K F B L m p) {r q0 : Ro} {u2 : HO} (ne : p2 ≠ p) (e2 : obj K F L m q0 = some u2) (ha : L'.ad r = p2) (ha2 : ∀ q, q ≠ r → L'.ad q = L.ad q) (hs : ∀ q w, q ≠ r → q ≠ q0 → obj K F L' m' q = some w → obj K F L m q = some w) : Fr K F B L' m' p := ⟨f.1, fun q w ew => by
  by_cases z : q = r
  · rw [z, ha]
    exact ne
  · rw [ha2 q z]
    by_cases z2 : q = q0
    · rw [z2]
      exact f.2 q0 u2 e2
    · exact f.2 q w (hs q w z z2 ew)⟩
end
end Wl
end
section
set_option Elab.async false
set_option linter.all false
set_option maxRecDepth 100000
/-! The network's changes in the heap. -/
namespace Wl
open PySem L2 He Mth Fl
theorem rng_len (n : Nat) (f : Nat → V) : (rng n f).length = n := by
  unfold rng
  rw [List.length_map, List.length_range]
theorem rng_get {n i : Nat} {f : Nat → V} (h : i < n) : (rng n f)[i]? = some (f i) := by
  unfold rng
  rw [List.getElem?_map, List.getElem?_range h]
  rfl
theorem rng_congr {n : Nat} {f g : Nat → V} (h : ∀ i, i < n → f i = g i) : rng n f = rng n g := List.map_congr_left fun i hi => h i (List.mem_range.mp hi)
theorem rng_set {n i : Nat} {f : Nat → V} {v : V} : (rng n f).set i v = rng n fun j => if j = i then v else f j := by
  apply List.ext_getElem?
  intro j
  unfold rng
  rw [List.getElem?_set, List.getElem?_map, List.getElem?_map, List.length_map, List.length_range]
  by_cases hj : j < n
  · rw [List.getElem?_range hj]
    by_cases e : j = i
    · subst e
      simp [hj]
    · have e2 : ¬ i = j := fun z => e z.symm
      simp [e, e2]
  · have hj2 : n ≤ j := Nat.not_lt.mp hj
    have e3 : (List.range n)[j]? = none := List.getElem?_eq_none_iff.mpr (by rw [List.length_range]; exact hj2)
    rw [e3]
    by_cases e : i = j
    · subst e
      simp [hj]
    · simp [e]
section
variable {K : PySem.W.Frag} {F : Fx} {B H : Hp} {L : Lay} {m : M}
theorem obj_ph (i : Nat) : obj K F L m (.ph i) = if i < F.n then some (.ins (ga K "PhoneCall") (L.dx (.ph i)) (phF (m.pd i) (L.ad (.sd i)) (L.ad (.hd i)))) else none := rfl
theorem obj_sd (i : Nat) : obj K F L m (.sd i) = if i < F.n then some (.lst (m.pd i).said) else none := rfl
theorem obj_hd (i : Nat) : obj K F L m (.hd i) = if i < F.n then some (.lst (m.pd i).heard) else none := rfl
theorem obj_upq (i : Nat) : obj K F L m (.upq i) = if i < F.n then some (.lst ((L.upA i).map V.ref)) else none := rfl
theorem obj_dnq (i : Nat) : obj K F L m (.dnq i) = if i < F.n then some (.lst ((L.dnA i).map V.ref)) else none := rfl
theorem obj_call (a : Addr) : obj K F L m (.call a) = (m.cs.find? fun c => decide (c.ad = a)).map fun c => .ins (ga K "Call") (L.dx (.call a)) (clF c) := rfl
/-- what of a person's data a role shows -/
def Shows (q : Ro) (i : Nat) (d e : Pd) : Prop := match q with
  | .li => d.li = e.li
  | .re => d.re = e.re
  | .pa => d.pa = e.pa
  | .ph j => j = i → ∀ s h, phF d s h = phF e s h
  | .sd j => j = i → d.said = e.said
  | .hd j => j = i → d.heard = e.heard
  | _ => True
theorem obj_set {i : Nat} {d : Pd} {q : Ro} (k : Shows q i d (m.pd i)) : obj K F L (m.set i d) q = obj K F L m q := by
  have pd : ∀ j, j ≠ i → (m.set i d).pd j = m.pd j := fun j hj => set_ne _ _ hj
  have pi : (m.set i d).pd i = d := set_same _ _ _
  cases q with
  | li =>
    refine congrArg (fun l => some (HO.lst l)) (rng_congr fun j _ => ?_)
    by_cases z : j = i
    · rw [z, pi]
      exact congrArg V.bl k
    · rw [pd j z]
  | re =>
    refine congrArg (fun l => some (HO.lst l)) (rng_congr fun j _ => ?_)
    by_cases z : j = i
    · rw [z, pi]
      exact congrArg V.bl k
    · rw [pd j z]
  | pa =>
    refine congrArg (fun l => some (HO.lst l)) (rng_congr fun j _ => ?_)
    by_cases z : j = i
    · rw [z, pi]
      exact congrArg V.bl k
    · rw [pd j z]
  | ph j =>
    rw [obj_ph, obj_ph]
    by_cases z : j = i
    · subst z
      rw [pi]
      by_cases hj : j < F.n
      · rw [if_pos hj, if_pos hj, k rfl]
      · rw [if_neg hj, if_neg hj]
    · rw [pd j z]
  | sd j =>
    rw [obj_sd, obj_sd]
    by_cases z : j = i
    · subst z
      rw [pi, k rfl]
    · rw [pd j z]
  | hd j =>
    rw [obj_hd, obj_hd]
    by_cases z : j = i
    · subst z
      rw [pi, k rfl]
    · rw [pd j z]
  | _ => rfl
theorem fine_set (h : WL K F B L m H) {i : Nat} {d : Pd} (k : i < F.n → PdFine B (L.upA i) (L.dnA i) d) : ∀ j, j < F.n → PdFine B (L.upA j) (L.dnA j) ((m.set i d).pd j) := fun j hj => by
  by_cases z : j = i
  · subst z
    rw [set_same]
    exact k hj
  · rw [set_ne _ _ z]
    exact h.fine j hj
/-! ### flags -/
theorem WL.setLi (h : WL K F B L m H) {i : Nat} (b : Bool) : WL K F B L (m.set i { m.pd i with li := b }) (upd H F.li (.lst ((rng F.n fun j => .bl (m.pd j).li).set i (.bl b)))) := by
  rw [← h.fix.li, rng_set]
  refine h.put (r := .li) rfl rfl ?_ (fun q w hq ew => ?_) (fine_set h fun hi => ⟨(h.fine i hi).up, (h.fine i hi).dn, (h.fine i hi).said, (h.fine i hi).heard, (h.fine i hi).num⟩) h.book h.ads
  · refine congrArg (fun l => some (HO.lst l)) (rng_congr fun j _ => ?_)
    by_cases z : j = i
    · rw [z, set_same, if_pos rfl]
    · rw [set_ne _ _ z, if_neg z]
  · rw [obj_set] at ew
    · exact ew
    · cases q <;> first | exact trivial | rfl | exact absurd rfl hq | (intro _; rfl) | (intro _ _ _; rfl)
theorem WL.setRe (h : WL K F B L m H) {i : Nat} (b : Bool) : WL K F B L (m.set i { m.pd i with re := b }) (upd H F.re (.lst ((rng F.n fun j => .bl (m.pd j).re).set i (.bl b)))) := by
  rw [← h.fix.re, rng_set]
  refine h.put (r := .re) rfl rfl ?_ (fun q w hq ew => ?_) (fine_set h fun hi => ⟨(h.fine i hi).up, (h.fine i hi).dn, (h.fine i hi).said, (h.fine i hi).heard, (h.fine i hi).num⟩) h.book h.ads
  · refine congrArg (fun l => some (HO.lst l)) (rng_congr fun j _ => ?_)
    by_cases z : j = i
    · rw [z, set_same, if_pos rfl]
    · rw [set_ne _ _ z, if_neg z]
  · rw [obj_set] at ew
    · exact ew
    · cases q <;> first | exact trivial | rfl | exact absurd rfl hq | (intro _; rfl) | (intro _ _ _; rfl)
theorem WL.setPa (h : WL K F B L m H) {i : Nat} (b : Bool) : WL K F B L (m.set i { m.pd i with pa := b }) (upd H F.pa (.lst ((rng F.n fun j => .bl (m.pd j).pa).set i (.bl b)))) := by
  rw [← h.fix.pa, rng_set]
  refine h.put (r := .pa) rfl rfl ?_ (fun q w hq ew => ?_) (fine_set h fun hi => ⟨(h.fine i hi).up, (h.fine i hi).dn, (h.fine i hi).said, (h.fine i hi).heard, (h.fine i hi).num⟩) h.book h.ads
  · refine congrArg (fun l => some (HO.lst l)) (rng_congr fun j _ => ?_)
    by_cases z : j = i
    · rw [z, set_same, if_pos rfl]
    · rw [set_ne _ _ z, if_neg z]
  · rw [obj_set] at ew
    · exact ew
    · cases q <;> first | exact trivial | rfl | exact absurd rfl hq | (intro _; rfl) | (intro _ _ _; rfl)
/-! ### queues -/
def Lay.setUp (L : Lay) (i : Nat) (as : List Addr) : Lay := { L with upA := fun j => if j = i then as else L.upA j }
def Lay.setDn (L : Lay) (i : Nat) (as : List Addr) : Lay := { L with dnA := fun j => if j = i then as else L.dnA j }
theorem obj_up {i : Nat} {as : List Addr} {q : Ro} (hq : q ≠ .upq i) : obj K F (L.setUp i as) m q = obj K F L m q := by
  cases q with
  | upq j =>
    have z : j ≠ i := fun z => hq (by rw [z])
    rw [obj_upq, obj_upq]
    show (if j < F.n then some (HO.lst ((if j = i then as else L.upA j).map V.ref)) else none) = _
    rw [if_neg z]
  | _ => rfl
theorem obj_dn {i : Nat} {as : List Addr} {q : Ro} (hq : q ≠ .dnq i) : obj K F (L.setDn i as) m q = obj K F L m q := by
  cases q with
  | dnq j =>
    have z : j ≠ i := fun z => hq (by rw [z])
    rw [obj_dnq, obj_dnq]
    show (if j < F.n then some (HO.lst ((if j = i then as else L.dnA j).map V.ref)) else none) = _
    rw [if_neg z]
  | _ => rfl
theorem WL.setUp (h : WL K F B L m H) {i : Nat} (hi : i < F.n) {as : List Addr} {xs : List Msg} (k : QAt B as xs) : WL K F B (L.setUp i as) (m.set i { m.pd i with up := xs }) (upd H (L.ad (.upq i)) (.lst (as.map V.ref))) := by
  refine h.put (r := .upq i) (u := .lst ((L.upA i).map V.ref)) (if_pos hi) rfl ?_ (fun q w hq ew => ?_) (fun j hj => ?_) h.book h.ads
  · refine (if_pos hi).trans ?_
    show some (HO.lst ((if i = i then as else L.upA i).map V.ref)) = _
    rw [if_pos rfl]
  · rw [obj_up hq, obj_set] at ew
    · exact ew
    · cases q <;> first | exact trivial | rfl | exact absurd rfl hq | (intro _; rfl) | (intro _ _ _; rfl)
  · show PdFine B (if j = i then as else L.upA j) (L.dnA j) _
    by_cases z : j = i
    · subst z
      rw [if_pos rfl, set_same]
      have f := h.fine j hj
      exact ⟨k, f.dn, f.said, f.heard, f.num⟩
    · rw [if_neg z, set_ne _ _ z]
      exact h.fine j hj
theorem WL.setDn (h : WL K F B L m H) {i : Nat} (hi : i < F.n) {as : List Addr} {xs : List Msg} (k : QAt B as xs) : WL K F B (L.setDn i as) (m.set i { m.pd i with dn := xs }) (upd H (L.ad (.dnq i)) (.lst (as.map V.ref))) := by
  refine h.put (r := .dnq i) (u := .lst ((L.dnA i).map V.ref)) (if_pos hi) rfl ?_ (fun q w hq ew => ?_) (fun j hj => ?_) h.book h.ads
  · refine (if_pos hi).trans ?_
    show some (HO.lst ((if i = i then as else L.dnA i).map V.ref)) = _
    rw [if_pos rfl]
  · rw [obj_dn hq, obj_set] at ew
    · exact ew
    · cases q <;> first | exact trivial | rfl | exact absurd rfl hq | (intro _; rfl) | (intro _ _ _; rfl)
  · show PdFine B (L.upA j) (if j = i then as else L.dnA j) _
    by_cases z : j = i
    · subst z
      rw [if_pos rfl, set_same]
      have f := h.fine j hj
      exact ⟨f.up, k, f.said, f.heard, f.num⟩
    · rw [if_neg z, set_ne _ _ z]
      exact h.fine j hj
def Lay.mv (L : Lay) (r : Ro) (p : Addr) : Lay := { L with ad := fun q => if q = r then p else L.ad q }
theorem fix_mv (h : Fixed F L) {r : Ro} {p : Addr} (k : match r with | .upq _ | .dnq _ | .sd _ | .hd _ | .rows => True | _ => False) : Fixed F (L.mv r p) := by
  obtain ⟨f1, f2, f3, f4, f5, f6, f7, f8, f9, f10⟩ := h
  have e : ∀ q, q ≠ r → (L.mv r p).ad q = L.ad q := fun q z => if_neg z
  cases r <;> first | exact False.elim k | skip
  all_goals
    constructor
    all_goals
      intros
      rw [e _ (by intro z; cases z)]
      simp only [*]
theorem fix_ad {L' : Lay} (h : Fixed F L) (e : L'.ad = L.ad) : Fixed F L' := by
  obtain ⟨f1, f2, f3, f4, f5, f6, f7, f8, f9, f10⟩ := h
  constructor <;> (intros; rw [e]; simp only [*])
/-- a new queue up: a list at p, free of the network, then up[i] = it -/
theorem WL.newUp (h : WL K F B L m H) {H1 : Hp} {i : Nat} (hi : i < F.n) {p : Addr} {as : List Addr} {xs : List Msg} (s : Same H H1) (fr : Fr K F B L m p) (hp : H1 p = some (.lst (as.map V.ref))) (k : QAt B as xs) :
    WL K F B ((L.mv (.upq i) p).setUp i as) (m.set i { m.pd i with up := xs }) (upd H1 F.up (.lst ((rng F.n fun j => .ref (L.ad (.upq j))).set i (.ref p)))) := by
  rw [← h.fix.up, rng_set]
  have hs : ∀ q w, q ≠ Ro.upq i → q ≠ Ro.up → obj K F ((L.mv (.upq i) p).setUp i as) (m.set i { m.pd i with up := xs }) q = some w → obj K F L m q = some w := fun q w z1 z2 ew => by
    rw [obj_up z1, obj_set] at ew
    · cases q <;> first | exact ew | exact absurd rfl z2
    · cases q <;> first | exact trivial | rfl | (intro _; rfl) | (intro _ _ _; rfl)
  refine h.new (r := .upq i) (q0 := .up) s fr hp (by intro z; cases z) rfl (if_pos rfl) (fun q z => if_neg z) (fix_ad (fix_mv (r := .upq i) (p := p) h.fix trivial) rfl) ?_ ?_ hs (fun j hj => ?_) h.book h.ads
  · refine (if_pos hi).trans ?_
    show some (HO.lst ((if i = i then as else L.upA i).map V.ref)) = _
    rw [if_pos rfl]
  · refine congrArg (fun l => some (HO.lst l)) (rng_congr fun j _ => ?_)
    show V.ref (if Ro.upq j = Ro.upq i then p else L.ad (.upq j)) = _
    by_cases z : j = i
    · rw [z, if_pos rfl, if_pos rfl]
    · rw [if_neg z, if_neg fun y => z (by injection y)]
  · show PdFine B (if j = i then as else L.upA j) (L.dnA j) _
    by_cases z : j = i
    · subst z
      rw [if_pos rfl, set_same]
      have f := h.fine j hj
      exact ⟨k, f.dn, f.said, f.heard, f.num⟩
    · rw [if_neg z, set_ne _ _ z]
      exact h.fine j hj
theorem WL.newDn (h : WL K F B L m H) {H1 : Hp} {i : Nat} (hi : i < F.n) {p : Addr} {as : List Addr} {xs : List Msg} (s : Same H H1) (fr : Fr K F B L m p) (hp : H1 p = some (.lst (as.map V.ref))) (k : QAt B as xs) :
    WL K F B ((L.mv (.dnq i) p).setDn i as) (m.set i { m.pd i with dn := xs }) (upd H1 F.dn (.lst ((rng F.n fun j => .ref (L.ad (.dnq j))).set i (.ref p)))) := by
  rw [← h.fix.dn, rng_set]
  have hs : ∀ q w, q ≠ Ro.dnq i → q ≠ Ro.dn → obj K F ((L.mv (.dnq i) p).setDn i as) (m.set i { m.pd i with dn := xs }) q = some w → obj K F L m q = some w := fun q w z1 z2 ew => by
    rw [obj_dn z1, obj_set] at ew
    · cases q <;> first | exact ew | exact absurd rfl z2
    · cases q <;> first | exact trivial | rfl | (intro _; rfl) | (intro _ _ _; rfl)
  refine h.new (r := .dnq i) (q0 := .dn) s fr hp (by intro z; cases z) rfl (if_pos rfl) (fun q z => if_neg z) (fix_ad (fix_mv (r := .dnq i) (p := p) h.fix trivial) rfl) ?_ ?_ hs (fun j hj => ?_) h.book h.ads
  · refine (if_pos hi).trans ?_
    show some (HO.lst ((if i = i then as else L.dnA i).map V.ref)) = _
    rw [if_pos rfl]
  · refine congrArg (fun l => some (HO.lst l)) (rng_congr fun j _ => ?_)
    show V.ref (if Ro.dnq j = Ro.dnq i then p else L.ad (.dnq j)) = _
    by_cases z : j = i
    · rw [z, if_pos rfl, if_pos rfl]
    · rw [if_neg z, if_neg fun y => z (by injection y)]
  · show PdFine B (L.upA j) (if j = i then as else L.dnA j) _
    by_cases z : j = i
    · subst z
      rw [if_pos rfl, set_same]
      have f := h.fine j hj
      exact ⟨f.up, k, f.said, f.heard, f.num⟩
    · rw [if_neg z, set_ne _ _ z]
      exact h.fine j hj
end
end Wl
end
section
set_option Elab.async false
set_option linter.all false
set_option maxRecDepth 100000
/-! Phones, calls, the book; what is read. -/
namespace Wl
open PySem L2 He Mth Fl
section
variable {K : PySem.W.Frag} {F : Fx} {B H : Hp} {L : Lay} {m : M}
theorem mv_self {r : Ro} {p : Addr} : (L.mv r p).ad r = p := if_pos rfl
theorem mv_ne {q r : Ro} {p : Addr} (h : q ≠ r) : (L.mv r p).ad q = L.ad q := if_neg h
/-! ### reads -/
theorem WL.atLi (h : WL K F B L m H) : H F.li = some (.lst (rng F.n fun i => .bl (m.pd i).li)) := h.fix.li ▸ h.objs .li _ rfl
theorem WL.atRe (h : WL K F B L m H) : H F.re = some (.lst (rng F.n fun i => .bl (m.pd i).re)) := h.fix.re ▸ h.objs .re _ rfl
theorem WL.atPa (h : WL K F B L m H) : H F.pa = some (.lst (rng F.n fun i => .bl (m.pd i).pa)) := h.fix.pa ▸ h.objs .pa _ rfl
theorem WL.atUp (h : WL K F B L m H) : H F.up = some (.lst (rng F.n fun i => .ref (L.ad (.upq i)))) := h.fix.up ▸ h.objs .up _ rfl
theorem WL.atDn (h : WL K F B L m H) : H F.dn = some (.lst (rng F.n fun i => .ref (L.ad (.dnq i)))) := h.fix.dn ▸ h.objs .dn _ rfl
theorem WL.atUpq (h : WL K F B L m H) {i : Nat} (hi : i < F.n) : H (L.ad (.upq i)) = some (.lst ((L.upA i).map V.ref)) := h.objs (.upq i) _ (if_pos hi)
theorem WL.atDnq (h : WL K F B L m H) {i : Nat} (hi : i < F.n) : H (L.ad (.dnq i)) = some (.lst ((L.dnA i).map V.ref)) := h.objs (.dnq i) _ (if_pos hi)
theorem WL.atPh (h : WL K F B L m H) {i : Nat} (hi : i < F.n) : H (F.ph i) = some (.ins (ga K "PhoneCall") (L.dx (.ph i)) (phF (m.pd i) (L.ad (.sd i)) (L.ad (.hd i)))) := h.fix.ph i ▸ h.objs (.ph i) _ (if_pos hi)
theorem WL.atSd (h : WL K F B L m H) {i : Nat} (hi : i < F.n) : H (L.ad (.sd i)) = some (.lst (m.pd i).said) := h.objs (.sd i) _ (if_pos hi)
theorem WL.atHd (h : WL K F B L m H) {i : Nat} (hi : i < F.n) : H (L.ad (.hd i)) = some (.lst (m.pd i).heard) := h.objs (.hd i) _ (if_pos hi)
theorem WL.atSw (h : WL K F B L m H) : H F.sw = some (.ins (ga K "Switch") (L.dx .sw) (FSwitch (.ref F.home) (.ref F.bk) (.ref (L.ad .rows)))) := h.fix.sw ▸ h.objs .sw _ rfl
theorem WL.atRows (h : WL K F B L m H) : H (L.ad .rows) = some (.lst (m.cs.map fun c => .ref c.ad)) := h.objs .rows _ rfl
theorem WL.atBk (h : WL K F B L m H) : H F.bk = some (.ins (ga K "Book") (L.dx .bk) (FBook (.ref F.bkr))) := h.fix.bk ▸ h.objs .bk _ rfl
theorem WL.atBkr (h : WL K F B L m H) : H F.bkr = some (.lst (L.bkA.map V.ref)) := h.fix.bkr ▸ h.objs .bkr _ rfl
theorem find_ad {cs : List Cl} (hA : Ads cs) {c : Cl} (hc : c ∈ cs) : cs.find? (fun e => decide (e.ad = c.ad)) = some c := by
  cases e : cs.find? fun e => decide (e.ad = c.ad) with
  | none =>
    have := List.find?_eq_none.mp e c hc
    simp at this
  | some d =>
    have h1 := List.mem_of_find?_eq_some e
    have h2 := List.find?_some e
    rw [hA.uniq h1 hc (of_decide_eq_true h2)]
theorem obj_call_of (hA : Ads m.cs) {c : Cl} (hc : c ∈ m.cs) : obj K F L m (.call c.ad) = some (.ins (ga K "Call") (L.dx (.call c.ad)) (clF c)) := by
  rw [obj_call, find_ad hA hc]
  rfl
theorem WL.atCall (h : WL K F B L m H) {c : Cl} (hc : c ∈ m.cs) : H c.ad = some (.ins (ga K "Call") (L.dx (.call c.ad)) (clF c)) := by
  have e := h.objs (.call c.ad) _ (obj_call_of h.ads hc)
  rw [h.fix.call] at e
  exact e
theorem WL.atWd (h : WL K F B L m H) : H F.wd = some (.dK (wdF F)) := h.same _ _ h.base.wd
theorem WL.atCalls (h : WL K F B L m H) : H F.calls = some (.lst (rng F.n fun i => .ref (F.ph i))) := h.same _ _ h.base.calls
theorem WL.atHome (h : WL K F B L m H) : HomeAt K H F.home F.n := h.base.home.mono h.same
/-! ### phones -/
theorem WL.setPh (h : WL K F B L m H) {i : Nat} (hi : i < F.n) {a : Nw} {r v : V} {b : Bool} (hv : NumV v) :
    WL K F B L (m.set i { m.pd i with now := a, rs := r, num := v, mkd := b }) (upd H (F.ph i) (.ins (ga K "PhoneCall") (L.dx (.ph i)) (phF { m.pd i with now := a, rs := r, num := v, mkd := b } (L.ad (.sd i)) (L.ad (.hd i))))) := by
  rw [← h.fix.ph i]
  refine h.put (r := .ph i) (if_pos hi) rfl ?_ (fun q w hq ew => ?_) (fine_set h fun hi => ⟨(h.fine i hi).up, (h.fine i hi).dn, (h.fine i hi).said, (h.fine i hi).heard, hv⟩) h.book h.ads
  · rw [obj_ph, set_same, if_pos hi]
  · rw [obj_set] at ew
    · exact ew
    · cases q with
      | ph j => exact fun z => absurd (congrArg Ro.ph z) hq
      | _ => first | exact trivial | rfl | (intro _; rfl)
theorem WL.setSd (h : WL K F B L m H) {i : Nat} (hi : i < F.n) {ws : List V} (hw : ∀ v ∈ ws, WordV B v) : WL K F B L (m.set i { m.pd i with said := ws }) (upd H (L.ad (.sd i)) (.lst ws)) := by
  refine h.put (r := .sd i) (if_pos hi) rfl ?_ (fun q w hq ew => ?_) (fine_set h fun hi => ⟨(h.fine i hi).up, (h.fine i hi).dn, hw, (h.fine i hi).heard, (h.fine i hi).num⟩) h.book h.ads
  · rw [obj_sd, set_same, if_pos hi]
  · rw [obj_set] at ew
    · exact ew
    · cases q with
      | sd j => exact fun z => absurd (congrArg Ro.sd z) hq
      | _ => first | exact trivial | rfl | (intro _; rfl) | (intro _ _ _; rfl)
theorem WL.setHd (h : WL K F B L m H) {i : Nat} (hi : i < F.n) {ws : List V} (hw : ∀ v ∈ ws, WordV B v) : WL K F B L (m.set i { m.pd i with heard := ws }) (upd H (L.ad (.hd i)) (.lst ws)) := by
  refine h.put (r := .hd i) (if_pos hi) rfl ?_ (fun q w hq ew => ?_) (fine_set h fun hi => ⟨(h.fine i hi).up, (h.fine i hi).dn, (h.fine i hi).said, hw, (h.fine i hi).num⟩) h.book h.ads
  · rw [obj_hd, set_same, if_pos hi]
  · rw [obj_set] at ew
    · exact ew
    · cases q with
      | hd j => exact fun z => absurd (congrArg Ro.hd z) hq
      | _ => first | exact trivial | rfl | (intro _; rfl) | (intro _ _ _; rfl)
/-- words_said = [] -/
theorem WL.newSd (h : WL K F B L m H) {H1 : Hp} {i : Nat} (hi : i < F.n) {p : Addr} (s : Same H H1) (np : H p = none) (hp : H1 p = some (.lst [])) :
    WL K F B (L.mv (.sd i) p) (m.set i { m.pd i with said := [] }) (upd H1 (F.ph i) (.ins (ga K "PhoneCall") (L.dx (.ph i)) (phF (m.pd i) p (L.ad (.hd i))))) := by
  rw [← h.fix.ph i]
  refine h.new (r := .sd i) (q0 := .ph i) s (h.fr np) hp (by intro z; cases z) (if_pos hi) (if_pos rfl) (fun q z => if_neg z) (fix_mv h.fix trivial) ?_ ?_ (fun q w z1 z2 ew => ?_) (fine_set h fun hi => ⟨(h.fine i hi).up, (h.fine i hi).dn, (fun v hv => nomatch hv), (h.fine i hi).heard, (h.fine i hi).num⟩) h.book h.ads
  · rw [obj_sd, set_same, if_pos hi]
  · rw [obj_ph, if_pos hi, set_same]
    have e1 : (L.mv (.sd i) p).ad (.sd i) = p := if_pos rfl
    have e2 : (L.mv (.sd i) p).ad (.hd i) = L.ad (.hd i) := mv_ne (by intro z; cases z)
    rw [e1, e2]
    rfl
  · rw [obj_set] at ew
    · cases q with
      | ph j =>
        have nj : j ≠ i := fun z => z2 (congrArg Ro.ph z)
        rw [obj_ph] at ew ⊢
        have e1 : (L.mv (.sd i) p).ad (.sd j) = L.ad (.sd j) := mv_ne fun z => nj (by injection z)
        have e2 : (L.mv (.sd i) p).ad (.hd j) = L.ad (.hd j) := mv_ne (by intro z; cases z)
        rw [e1, e2] at ew
        exact ew
      | _ => exact ew
    · cases q with
      | sd j => exact fun z => absurd (congrArg Ro.sd z) z1
      | _ => first | exact trivial | rfl | (intro _; rfl) | (intro _ _ _; rfl)
/-- words_heard = [] -/
theorem WL.newHd (h : WL K F B L m H) {H1 : Hp} {i : Nat} (hi : i < F.n) {p : Addr} (s : Same H H1) (np : H p = none) (hp : H1 p = some (.lst [])) :
    WL K F B (L.mv (.hd i) p) (m.set i { m.pd i with heard := [] }) (upd H1 (F.ph i) (.ins (ga K "PhoneCall") (L.dx (.ph i)) (phF (m.pd i) (L.ad (.sd i)) p))) := by
  rw [← h.fix.ph i]
  refine h.new (r := .hd i) (q0 := .ph i) s (h.fr np) hp (by intro z; cases z) (if_pos hi) (if_pos rfl) (fun q z => if_neg z) (fix_mv h.fix trivial) ?_ ?_ (fun q w z1 z2 ew => ?_) (fine_set h fun hi => ⟨(h.fine i hi).up, (h.fine i hi).dn, (h.fine i hi).said, (fun v hv => nomatch hv), (h.fine i hi).num⟩) h.book h.ads
  · rw [obj_hd, set_same, if_pos hi]
  · rw [obj_ph, if_pos hi, set_same]
    have e1 : (L.mv (.hd i) p).ad (.hd i) = p := if_pos rfl
    have e2 : (L.mv (.hd i) p).ad (.sd i) = L.ad (.sd i) := mv_ne (by intro z; cases z)
    rw [e1, e2]
    rfl
  · rw [obj_set] at ew
    · cases q with
      | ph j =>
        have nj : j ≠ i := fun z => z2 (congrArg Ro.ph z)
        rw [obj_ph] at ew ⊢
        have e1 : (L.mv (.hd i) p).ad (.hd j) = L.ad (.hd j) := mv_ne fun z => nj (by injection z)
        have e2 : (L.mv (.hd i) p).ad (.sd j) = L.ad (.sd j) := mv_ne (by intro z; cases z)
        rw [e1, e2] at ew
        exact ew
      | _ => exact ew
    · cases q with
      | hd j => exact fun z => absurd (congrArg Ro.hd z) z1
      | _ => first | exact trivial | rfl | (intro _; rfl) | (intro _ _ _; rfl)
/-! ### calls -/
theorem find_map {cs : List Cl} {c' : Cl} {a : Addr} (ne : a ≠ c'.ad) : (setC cs c').find? (fun e => decide (e.ad = a)) = cs.find? fun e => decide (e.ad = a) := by
  induction cs with
  | nil => rfl
  | cons x cs ih =>
    have e : setC (x :: cs) c' = (if x.ad = c'.ad then c' else x) :: setC cs c' := rfl
    rw [e, List.find?_cons, List.find?_cons, ih]
    by_cases z : x.ad = c'.ad
    · rw [if_pos z]
      have n1 : decide (c'.ad = a) = false := decide_eq_false fun y => ne y.symm
      have n2 : decide (x.ad = a) = false := decide_eq_false fun y => ne (y.symm.trans z)
      rw [n1, n2]
    · rw [if_neg z]
theorem setC_ads {cs : List Cl} {c' : Cl} : (setC cs c').map (fun c => V.ref c.ad) = cs.map fun c => V.ref c.ad := by
  unfold setC
  rw [List.map_map]
  refine List.map_congr_left fun e _ => ?_
  show V.ref (if e.ad = c'.ad then c' else e).ad = V.ref e.ad
  split
  · rename_i z
    rw [z]
  · rfl
theorem WL.setCall (h : WL K F B L m H) {c c' : Cl} (hc : c ∈ m.cs) (e : c'.ad = c.ad) : WL K F B L { m with cs := setC m.cs c' } (upd H c.ad (.ins (ga K "Call") (L.dx (.call c.ad)) (clF c'))) := by
  have e1 := h.fix.call c.ad
  have hc' : c' ∈ setC m.cs c' := List.mem_map.mpr ⟨c, hc, if_pos e.symm⟩
  have hA := ads_setC h.ads c'
  rw [show upd H c.ad (.ins (ga K "Call") (L.dx (.call c.ad)) (clF c')) = upd H (L.ad (.call c.ad)) (.ins (ga K "Call") (L.dx (.call c.ad)) (clF c')) by rw [e1]]
  refine h.put (r := .call c.ad) (obj_call_of h.ads hc) rfl ?_ (fun q w hq ew => ?_) h.fine h.book hA
  · have := obj_call_of (K := K) (F := F) (L := L) (m := { m with cs := setC m.cs c' }) hA hc'
    rw [e] at this
    exact this
  · cases q with
    | call a =>
      have na : a ≠ c'.ad := fun z => hq (by rw [z, e])
      rw [obj_call] at ew ⊢
      dsimp only at ew
      rw [find_map na] at ew
      exact ew
    | rows =>
      have : obj K F L { m with cs := setC m.cs c' } .rows = obj K F L m .rows := congrArg (fun l => some (HO.lst l)) setC_ads
      rw [this] at ew
      exact ew
    | _ => exact ew
theorem WL.newCall (h : WL K F B L m H) {H1 : Hp} {c : Cl} {dx : Addr} (s : Same H H1) (np : H c.ad = none) (hp : H1 c.ad = some (.ins (ga K "Call") dx (clF c))) :
    ∃ L', WL K F B L' { m with cs := m.cs ++ [c] } (upd H1 (L.ad .rows) (.lst ((m.cs.map fun c => V.ref c.ad) ++ [.ref c.ad]))) := by
  have na : ∀ e ∈ m.cs, e.ad ≠ c.ad := fun e he z => by
    have := h.atCall he
    rw [z, np] at this
    cases this
  have hA : Ads (m.cs ++ [c]) := by
    unfold Ads
    rw [List.map_append, List.nodup_append]
    refine ⟨h.ads, by simp, fun a ha b hb z => ?_⟩
    obtain ⟨e, he, ea⟩ := List.mem_map.mp ha
    have hb : b = c.ad := by simpa using hb
    exact na e he (ea.trans (z.trans hb))
  have hc : c ∈ m.cs ++ [c] := List.mem_append_right _ List.mem_cons_self
  let L' : Lay := { L with dx := fun q => if q = .call c.ad then dx else L.dx q }
  have dxn : ∀ q, q ≠ .call c.ad → L'.dx q = L.dx q := fun q z => if_neg z
  refine ⟨L', h.new (L' := L') (m' := { m with cs := m.cs ++ [c] }) (r := .call c.ad) (q0 := .rows) s (h.fr np) hp (by intro z; cases z) rfl (h.fix.call c.ad) (fun _ _ => rfl) (fix_ad h.fix rfl) ?_ ?_ (fun q w z1 z2 ew => ?_) h.fine h.book hA⟩
  · rw [obj_call_of hA hc]
    have : L'.dx (.call c.ad) = dx := if_pos rfl
    rw [this]
  · show some (HO.lst ((m.cs ++ [c]).map fun c => V.ref c.ad)) = _
    rw [List.map_append]
    rfl
  · cases q with
    | call a =>
      have na2 : a ≠ c.ad := fun z => z1 (by rw [z])
      rw [obj_call] at ew ⊢
      dsimp only at ew
      rw [dxn _ z1, List.find?_append] at ew
      have : [c].find? (fun e => decide (e.ad = a)) = none := by
        rw [List.find?_cons]
        have n1 : decide (c.ad = a) = false := decide_eq_false fun y => na2 y.symm
        rw [n1]
        rfl
      rw [this] at ew
      cases ef : m.cs.find? fun e => decide (e.ad = a) with
      | none =>
        rw [ef] at ew
        cases ew
      | some x =>
        rw [ef] at ew
        exact ew
    | rows => exact absurd rfl z2
    | _ => exact ew
/-- the rows without some -/
theorem WL.newRows (h : WL K F B L m H) {H1 : Hp} {p : Addr} {cs' : List Cl} (s : Same H H1) (np : H p = none) (hp : H1 p = some (.lst (cs'.map fun c => .ref c.ad))) (hsub : cs'.Sublist m.cs) :
    WL K F B (L.mv .rows p) { m with cs := cs' } (upd H1 F.sw (.ins (ga K "Switch") (L.dx .sw) (FSwitch (.ref F.home) (.ref F.bk) (.ref p)))) := by
  have hA : Ads cs' := h.ads.sublist (hsub.map _)
  rw [← h.fix.sw]
  refine h.new (r := .rows) (q0 := .sw) s (h.fr np) hp (by intro z; cases z) rfl mv_self (fun q z => mv_ne z) (fix_mv h.fix trivial) rfl ?_ (fun q w z1 z2 ew => ?_) h.fine h.book hA
  · show some (HO.ins _ _ (FSwitch _ _ (.ref ((L.mv .rows p).ad .rows)))) = _
    rw [mv_self]
    rfl
  cases q with
  | call a =>
    rw [obj_call] at ew ⊢
    dsimp only at ew
    cases ef : cs'.find? fun e => decide (e.ad = a) with
    | none =>
      rw [ef] at ew
      cases ew
    | some x =>
      rw [ef] at ew
      have hx := List.mem_of_find?_eq_some ef
      have ex : x.ad = a := by
        have := List.find?_some ef
        exact of_decide_eq_true this
      have := find_ad h.ads (hsub.subset hx)
      rw [ex] at this
      rw [this]
      exact ew
  | rows => exact absurd rfl z1
  | sw => exact absurd rfl z2
  | _ => exact ew
/-! ### the book -/
theorem WL.bkApp (h : WL K F B L m H) {a : Addr} {b : Bool} (k : RowAt B a b) : WL K F B { L with bkA := L.bkA ++ [a] } { m with bk := m.bk ++ [b] } (upd H F.bkr (.lst (L.bkA.map V.ref ++ [.ref a]))) := by
  rw [← h.fix.bkr]
  refine h.put (L' := { L with bkA := L.bkA ++ [a] }) (r := .bkr) rfl rfl ?_ (fun q w hq ew => ?_) h.fine (all2_app h.book (.cons k .nil)) h.ads
  · show some (HO.lst ((L.bkA ++ [a]).map V.ref)) = _
    rw [List.map_append]
    rfl
  · cases q <;> first | exact ew | exact absurd rfl hq
theorem WL.bkSet (h : WL K F B L m H) {a : Addr} {b : Bool} (i : Nat) (k : RowAt B a b) : WL K F B { L with bkA := L.bkA.set i a } { m with bk := m.bk.set i b } (upd H F.bkr (.lst ((L.bkA.map V.ref).set i (.ref a)))) := by
  rw [← h.fix.bkr]
  refine h.put (L' := { L with bkA := L.bkA.set i a }) (r := .bkr) rfl rfl ?_ (fun q w hq ew => ?_) h.fine (all2_set i h.book k) h.ads
  · show some (HO.lst ((L.bkA.set i a).map V.ref)) = _
    rw [List.map_set]
  · cases q <;> first | exact ew | exact absurd rfl hq
end
end Wl
end
section
set_option Elab.async false
set_option linter.all false
set_option maxRecDepth 100000
/-! The walk: refuse. -/
namespace Wk
open PySem L2 He Mth Fl Wl Tx PyProof.Rows
theorem bl {a b : Nat} (h : Nat.ble a b = true := by rfl) : a ≤ b := Nat.le_of_ble_eq_true h
/-- an action's tuple -/
def ActAt (B : Hp) (a : Addr) : Mth.Act → Prop
  | .tell p x => ∃ t, B a = some (.tup [.str "tell", natV p, .ref t]) ∧ MsgAt B t x
  | .release p => B a = some (.tup [.str "release", natV p])
  | .page p => B a = some (.tup [.str "page", natV p])
  | .unpage p => B a = some (.tup [.str "unpage", natV p])
theorem ActAt.mono {B B' : Hp} {a : Addr} {x : Mth.Act} (s : Same B B') (h : ActAt B a x) : ActAt B' a x := by
  cases x with
  | tell p x =>
    obtain ⟨t, h1, h2⟩ := h
    exact ⟨t, s _ _ h1, h2.mono s⟩
  | release p => exact s _ _ h
  | page p => exact s _ _ h
  | unpage p => exact s _ _ h
/-- a list of actions -/
def ActsAt (B : Hp) (l : Addr) (xs : List Mth.Act) : Prop := ∃ as : List Addr, B l = some (.lst (as.map V.ref)) ∧ Paired (ActAt B) as xs
theorem ActsAt.mono {B B' : Hp} {l : Addr} {xs : List Mth.Act} (s : Same B B') (h : ActsAt B l xs) : ActsAt B' l xs := by
  obtain ⟨as, h1, h2⟩ := h
  exact ⟨as, s _ _ h1, all2_mono (fun _ _ k => k.mono s) h2⟩
section
variable {P : Program} {w : World} {K : PySem.W.Frag} {mg : Str → Option Value} {base : Heap} {F : Fx}
def spRefuse (K : PySem.W.Frag) (F : Fx) : Sp := fun vs H Q _ => ∃ (B : Hp) (m : M) (p : Nat) (c : V), vs = [natV p, c] ∧ (∃ j : Int, c = .int j) ∧ Wd K F B m H ∧ ∀ B' H' l, Same B B' → Wd K F B' m H' → ActsAt B' l (Mth.refuse p c) → Q (.ref l) H'
theorem ok_refuse (T : Txt K mg) : Has P w K mg base CX0 1 (ga K "refuse") ["person", "cause"] (spRefuse K F) := by
  obtain ⟨fd, Fn⟩ := fd_refuse T
  refine ⟨fd, Fn.ok sc_refuse (fun vs H Q E h => ?_) (fun cdv A outer s H vs Q E hr h => ?_), bi_refuse Fn, Fn.kp⟩
  · obtain ⟨B, m, p, c, rfl, _⟩ := h
    rfl
  · obtain ⟨B, m, p, c, rfl, hj, W, k⟩ := h
    refine ⟨_, PSs.nox (pss_one (ps_ret (pe_lst (pa_cons (pe_tup (pa_cons pe_str (pa_cons (pv 0) (pa_cons (pe_tup (pa_cons pe_str (pa_cons (pv 1) pa_nil))) pa_nil)))) (pa_cons (pe_tup (pa_cons pe_str (pa_cons (pv 0) pa_nil))) pa_nil))))), ?_⟩
    refine ⟨_, rfl, _, rfl, bl, fun t nt => ?_⟩
    obtain ⟨B1, s1, W1, e1⟩ := W.imm nt _
    refine ⟨bl, fun a na => ?_⟩
    obtain ⟨B2, s2, W2, e2⟩ := W1.imm na _
    refine ⟨_, rfl, bl, fun b nb => ?_⟩
    obtain ⟨B3, s3, W3, e3⟩ := W2.imm nb _
    refine ⟨bl, fun l nl => ?_⟩
    obtain ⟨B4, s4, W4, e4⟩ := W3.imm nl _
    refine k _ _ _ (((s1.trans s2).trans s3).trans s4) W4 ⟨[a, b], e4, .cons ⟨t, s4 _ _ (s3 _ _ e2), s4 _ _ (s3 _ _ (s2 _ _ e1)), hj⟩ (.cons (s4 _ _ e3) .nil)⟩
end
end Wk
end
section
set_option Elab.async false
set_option linter.all false
set_option maxRecDepth 100000
/-! The walk: the home, read. -/
namespace Wk
open PySem L2 He Mth Fl Wl Tx PyProof.Rows
theorem tF {p A B : Prop} [Decidable p] (h : ¬ p) (k : B) : if decide p = true then A else B := by
  rw [if_neg fun z => h (of_decide_eq_true z)]
  exact k
theorem tT {p A B : Prop} [Decidable p] (h : p) (k : A) : if decide p = true then A else B := by
  rw [if_pos (decide_eq_true h)]
  exact k
theorem nF {p A B : Prop} [Decidable p] (h : p) (k : B) : if (!decide p) = true then A else B := by
  rw [decide_eq_true h]
  exact k
theorem nT {p A B : Prop} [Decidable p] (h : ¬ p) (k : A) : if (!decide p) = true then A else B := by
  rw [decide_eq_false h]
  exact k
/-- by cases -/
theorem tC {p A B : Prop} [Decidable p] (h : p → A) (k : ¬ p → B) : if decide p = true then A else B := by
  by_cases z : p
  · exact tT z (h z)
  · exact tF z (k z)
theorem nC {p A B : Prop} [Decidable p] (h : ¬ p → A) (k : p → B) : if (!decide p) = true then A else B := by
  by_cases z : p
  · exact nF z (k z)
  · exact nT z (h z)
theorem int_inj {i j : Int} (h : V.int i = V.int j) : i = j := by
  injection h
theorem str_inj {i j : Str} (h : V.str i = V.str j) : i = j := by
  injection h
def PersIs (K : PySem.W.Frag) (H : Hp) (p : Addr) (d z : Str) (ar : V) (nd : Addr) : Prop := ∃ dx, H p = some (.ins (ga K "Person") dx (FPerson (.str d) (.str z) ar (.ref nd)))
def RowsAt (K : PySem.W.Frag) (H : Hp) (home : Addr) (ps : List Addr) : Prop := ∃ dx rl, H home = some (.ins (ga K "Home") dx (FHome (.ref rl))) ∧ H rl = some (.lst (ps.map V.ref))
section
variable {P : Program} {w : World} {K : PySem.W.Frag} {mg : Str → Option Value} {base : Heap} {F : Fx}
def spHfind (K : PySem.W.Frag) : Sp := fun vs H Q _ => ∃ (home : Addr) (i : Nat) (ps : List Addr) (p : Addr), vs = [.ref home, natV i] ∧ RowsAt K H home ps ∧ ps[i]? = some p ∧ Q (.ref p) H
theorem ok_Home_find (T : Txt K mg) : Has P w K mg base CX0 1 (ma K (ga K "Home") "find") ["self", "person"] (spHfind K) := by
  obtain ⟨fd, Fn⟩ := fd_Home_find T
  refine ⟨fd, Fn.ok sc_Home_find (fun vs H Q E h => ?_) (fun cdv A outer s H vs Q E hr h => ?_), bi_Home_find Fn, Fn.kp⟩
  · obtain ⟨home, i, ps, p, rfl, _⟩ := h
    rfl
  · obtain ⟨home, i, ps, p, rfl, ⟨dx, rl, h1, h2⟩, hp, k⟩ := h
    refine ⟨_, PSs.nox (pss_cons (ps_if (PW.pt (pw_or (pt_cmpR op_lt (pv 1) pe_int (nomark _)) (pw_or1 (pt_cmpR op_ge (pv 1) (pe_callB call_len_seq (by rfl) (fr_len T) PySem.boot_len (pa_cons (pe_fld (pv 0) rfl) pa_nil)) (nomark _)))))
      (pss_one (ps_never)) pss_nil)
      (pss_one (ps_ret (pe_ix ix_list (pe_fld (pv 0) rfl) (pv 1) (fun _ _ => rfl))))), ?_⟩
    refine ⟨_, rfl, _, _, rfl, rfl, _, rfl, ?_⟩
    have hlt : i < ps.length := (List.getElem?_eq_some_iff.mp hp).1
    refine tF (by omega) ?_
    refine ⟨_, rfl, _, rfl, home, _, dx, _, _, rfl, h1, cl_Home T, na_Home_rows T, gHome_rows, rl, _, rfl, .inl (SqL.of h2), _, _, rfl, rfl, _, rfl, ?_⟩
    refine tF (by rw [List.length_map]; omega) ?_
    refine ⟨_, rfl, home, _, dx, _, _, rfl, h1, cl_Home T, na_Home_rows T, gHome_rows, _, rfl, rl, _, _, _, rfl, rfl, SqL.of h2, atI_nat (by rw [List.getElem?_map, hp]; rfl), k⟩
/-- a number of the home's, at i -/
abbrev NumsAt (K : PySem.W.Frag) (H : Hp) (ps : List Addr) (zs : List Str) : Prop := Paired (fun p z => ∃ d ar nd, PersIs K H p d z ar nd) ps zs
theorem same_pers {H H' : Hp} (s : Same H H') {p : Addr} {d z : Str} {ar : V} {nd : Addr} (h : PersIs K H p d z ar nd) : PersIs K H' p d z ar nd := by
  obtain ⟨dx, h⟩ := h
  exact ⟨dx, s _ _ h⟩
theorem scal_str {z : Str} {v : V} (h : NumV v) : scal (.str z) v = true := by
  rcases h with rfl | ⟨y, rfl⟩ <;> rfl
theorem pair_at {α β : Type} {R : α → β → Prop} : ∀ {as : List α} {bs : List β} {i : Nat} {a : α}, Paired R as bs → as[i]? = some a → ∃ b, bs[i]? = some b ∧ R a b
  | _, _, i, a, .nil, e => by simp at e
  | _, _, 0, a, .cons r _, e => by
    simp at e
    subst e
    exact ⟨_, rfl, r⟩
  | _, _, i + 1, a, .cons _ t, e => by
    obtain ⟨b, h1, h2⟩ := pair_at (i := i) (a := a) t (by simpa using e)
    exact ⟨b, by simpa using h1, h2⟩
theorem map_at {f : Addr → V} {ps : List Addr} {i : Nat} {x : V} (h : (ps.map f)[i]? = some x) : ∃ p, ps[i]? = some p ∧ x = f p := by
  rw [List.getElem?_map] at h
  cases e : ps[i]? with
  | none =>
    rw [e] at h
    cases h
  | some p =>
    rw [e] at h
    exact ⟨p, rfl, (Option.some.inj h).symm⟩
def spHwith (K : PySem.W.Frag) (num : Bool) : Sp := fun vs H Q _ => ∃ (home : Addr) (ps : List Addr) (zs : List Str) (v : V), vs = [.ref home, v] ∧ RowsAt K H home ps ∧ Paired (fun p z => ∃ d y ar nd, PersIs K H p d y ar nd ∧ (if num then y else d) = z) ps zs ∧ NumV v ∧
  (∀ H', (∀ z ∈ zs, V.str z ≠ v) → Same H H' → Q .non H') ∧ ∀ i z H', zs[i]? = some z → V.str z = v → Same H H' → Q (natV i) H'
theorem ok_Home_with_number (T : Txt K mg) : Has P w K mg base CX0 1 (ma K (ga K "Home") "with_number") ["self", "number"] (spHwith K true) := by
  obtain ⟨fd, Fn⟩ := fd_Home_with_number T
  refine ⟨fd, Fn.ok sc_Home_with_number (fun vs H Q E h => ?_) (fun cdv A outer s H vs Q E hr h => ?_), bi_Home_with_number Fn, Fn.kp⟩
  · obtain ⟨home, ps, zs, v, rfl, _⟩ := h
    rfl
  · obtain ⟨home, ps, zs, v, rfl, ⟨dx, rl, h1, h2⟩, hz, hv, k1, k2⟩ := h
    refine ⟨_, PSs.nox (pss_cons (ps_for PassesOwn.never rfl (pi_enum (by rfl) (fr_enumerate T) (pa_cons (pe_fld (pv 0) rfl) pa_nil)) (pg_tup (by rfl) (pgs_cons (pg_name (i := 2) sc_Home_with_number.nd rfl (Or.inl rfl)) (pgs_cons (pg_name (i := 3) sc_Home_with_number.nd rfl (Or.inl rfl)) pgs_nil)))
      (pss_one (ps_if (pt_cmpR op_eq (pe_fld (pv 3) rfl) (pv 1) (nomark _))
        (pss_one (ps_ret (pv 2)))
        pss_nil)))
    (pss_one (ps_ret pe_non))), ?_⟩
    refine ⟨_, rfl, home, _, dx, _, _, rfl, h1, cl_Home T, na_Home_rows T, gHome_rows, rl, _, rfl, SqL.of h2, ?_⟩
    refine for_it (walk_enum (xs := ps.map V.ref)) (fun i σ H' => ∃ a b, σ = [some (.ref home), some v, a, b] ∧ Same H H' ∧ ∀ j z, j < i → zs[j]? = some z → V.str z ≠ v) ⟨none, none, rfl, Same.refl _, fun j z hj => absurd hj (Nat.not_lt_zero j)⟩ (fun i σ H' _ ⟨_, _, _, s, _⟩ => SqL.of (s _ _ h2)) ?_ ?_
    · rintro i x σ H1 H2 hi ⟨a, b, rfl, s1, hno⟩ ⟨t, x1, y, rfl, nt, rfl, e1, e2⟩
      obtain ⟨p, hp, rfl⟩ := map_at e2
      cases e1
      obtain ⟨z, hz1, d, y, ar, nd, ⟨px, hp2⟩, ez⟩ := pair_at hz hp
      have ez : y = z := ez
      subst ez
      have s2 : Same H (upd H1 t (.tup [.int (i : Nat), .ref p])) := s1.trans (same_upd nt)
      refine ⟨t, _, rfl, SqT.of upd_same, rfl, _, _, rfl, _, _, rfl, rfl, ?_⟩
      refine ⟨_, rfl, p, _, px, _, _, rfl, s2 _ _ hp2, cl_Person T, na_Person_number T, gPerson_number, _, rfl, scal_str hv, _, rfl, ?_⟩
      refine tC (fun q => ?_) fun q => ?_
      · exact ⟨_, rfl, k2 i y _ hz1 q s2⟩
      · refine ⟨_, _, rfl, s2, fun j z hj ej => ?_⟩
        by_cases ji : j = i
        · subst ji
          rw [hz1] at ej
          cases ej
          exact q
        · exact hno j z (by omega) ej
    · rintro σ H' ⟨a, b, rfl, s1, hno⟩
      refine k1 _ (fun z hz2 => ?_) s1
      obtain ⟨j, hj, ej⟩ := List.getElem_of_mem hz2
      have lz := hz.length
      exact hno j z (by rw [List.length_map, lz]; exact hj) (by rw [List.getElem?_eq_getElem hj, ej])
theorem ok_Home_with_digits (T : Txt K mg) : Has P w K mg base CX0 1 (ma K (ga K "Home") "with_digits") ["self", "digits"] (spHwith K false) := by
  obtain ⟨fd, Fn⟩ := fd_Home_with_digits T
  refine ⟨fd, Fn.ok sc_Home_with_digits (fun vs H Q E h => ?_) (fun cdv A outer s H vs Q E hr h => ?_), bi_Home_with_digits Fn, Fn.kp⟩
  · obtain ⟨home, ps, zs, v, rfl, _⟩ := h
    rfl
  · obtain ⟨home, ps, zs, v, rfl, ⟨dx, rl, h1, h2⟩, hz, hv, k1, k2⟩ := h
    refine ⟨_, PSs.nox (pss_cons (ps_for PassesOwn.never rfl (pi_enum (by rfl) (fr_enumerate T) (pa_cons (pe_fld (pv 0) rfl) pa_nil)) (pg_tup (by rfl) (pgs_cons (pg_name (i := 2) sc_Home_with_digits.nd rfl (Or.inl rfl)) (pgs_cons (pg_name (i := 3) sc_Home_with_digits.nd rfl (Or.inl rfl)) pgs_nil)))
      (pss_one (ps_if (pt_cmpR op_eq (pe_fld (pv 3) rfl) (pv 1) (nomark _))
        (pss_one (ps_ret (pv 2)))
        pss_nil)))
    (pss_one (ps_ret pe_non))), ?_⟩
    refine ⟨_, rfl, home, _, dx, _, _, rfl, h1, cl_Home T, na_Home_rows T, gHome_rows, rl, _, rfl, SqL.of h2, ?_⟩
    refine for_it (walk_enum (xs := ps.map V.ref)) (fun i σ H' => ∃ a b, σ = [some (.ref home), some v, a, b] ∧ Same H H' ∧ ∀ j z, j < i → zs[j]? = some z → V.str z ≠ v) ⟨none, none, rfl, Same.refl _, fun j z hj => absurd hj (Nat.not_lt_zero j)⟩ (fun i σ H' _ ⟨_, _, _, s, _⟩ => SqL.of (s _ _ h2)) ?_ ?_
    · rintro i x σ H1 H2 hi ⟨a, b, rfl, s1, hno⟩ ⟨t, x1, y, rfl, nt, rfl, e1, e2⟩
      obtain ⟨p, hp, rfl⟩ := map_at e2
      cases e1
      obtain ⟨z, hz1, d, y, ar, nd, ⟨px, hp2⟩, ez⟩ := pair_at hz hp
      have ez : d = z := ez
      subst ez
      have s2 : Same H (upd H1 t (.tup [.int (i : Nat), .ref p])) := s1.trans (same_upd nt)
      refine ⟨t, _, rfl, SqT.of upd_same, rfl, _, _, rfl, _, _, rfl, rfl, ?_⟩
      refine ⟨_, rfl, p, _, px, _, _, rfl, s2 _ _ hp2, cl_Person T, na_Person_digits T, gPerson_digits, _, rfl, scal_str hv, _, rfl, ?_⟩
      refine tC (fun q => ?_) fun q => ?_
      · exact ⟨_, rfl, k2 i d _ hz1 q s2⟩
      · refine ⟨_, _, rfl, s2, fun j z hj ej => ?_⟩
        by_cases ji : j = i
        · subst ji
          rw [hz1] at ej
          cases ej
          exact q
        · exact hno j z (by omega) ej
    · rintro σ H' ⟨a, b, rfl, s1, hno⟩
      refine k1 _ (fun z hz2 => ?_) s1
      obtain ⟨j, hj, ej⟩ := List.getElem_of_mem hz2
      have lz := hz.length
      exact hno j z (by rw [List.length_map, lz]; exact hj) (by rw [List.getElem?_eq_getElem hj, ej])
/-- a person's number, area -/
def spHget (K : PySem.W.Frag) (num : Bool) : Sp := fun vs H Q _ => ∃ (home : Addr) (i : Nat) (ps : List Addr) (p : Addr) (d z : Str) (ar : V) (nd : Addr), vs = [.ref home, natV i] ∧ RowsAt K H home ps ∧ ps[i]? = some p ∧ PersIs K H p d z ar nd ∧ Q (if num then .str z else ar) H
theorem ok_Home_number (T : Txt K mg) : Has P w K mg base CX0 2 (ma K (ga K "Home") "number") ["self", "person"] (spHget K true) := by
  obtain ⟨fd, Fn⟩ := fd_Home_number T
  obtain ⟨fd1, G_Home_find, b_Home_find, _⟩ := ok_Home_find (P := P) (w := w) (base := base) T
  refine ⟨fd, Fn.ok sc_Home_number (fun vs H Q E h => ?_) (fun cdv A outer s H vs Q E hr h => ?_), bi_Home_number Fn, Fn.kp⟩
  · obtain ⟨home, i, ps, p, d, z, ar, nd, rfl, _⟩ := h
    rfl
  · obtain ⟨home, i, ps, p, d, z, ar, nd, rfl, hR, hp, ⟨px, hP⟩, k⟩ := h
    refine ⟨_, PSs.nox (pss_one (ps_ret (pe_fld (pe_meth (pv 0) (cl_Home T) (me_Home_find T) G_Home_find (hr.mono (by decide)) b_Home_find .nil pass0 (pa_cons (pv 1) pa_nil)) rfl))), ?_⟩
    have hR2 := hR
    obtain ⟨dx, rl, h1, h2⟩ := hR2
    exact ⟨_, rfl, home, dx, _, rfl, h1, mHome_find, _, rfl, home, i, ps, p, rfl, hR, hp, p, _, px, _, _, rfl, hP, cl_Person T, na_Person_number T, gPerson_number, k⟩
theorem ok_Home_area (T : Txt K mg) : Has P w K mg base CX0 2 (ma K (ga K "Home") "area") ["self", "person"] (spHget K false) := by
  obtain ⟨fd, Fn⟩ := fd_Home_area T
  obtain ⟨fd1, G_Home_find, b_Home_find, _⟩ := ok_Home_find (P := P) (w := w) (base := base) T
  refine ⟨fd, Fn.ok sc_Home_area (fun vs H Q E h => ?_) (fun cdv A outer s H vs Q E hr h => ?_), bi_Home_area Fn, Fn.kp⟩
  · obtain ⟨home, i, ps, p, d, z, ar, nd, rfl, _⟩ := h
    rfl
  · obtain ⟨home, i, ps, p, d, z, ar, nd, rfl, hR, hp, ⟨px, hP⟩, k⟩ := h
    refine ⟨_, PSs.nox (pss_one (ps_ret (pe_fld (pe_meth (pv 0) (cl_Home T) (me_Home_find T) G_Home_find (hr.mono (by decide)) b_Home_find .nil pass0 (pa_cons (pv 1) pa_nil)) rfl))), ?_⟩
    have hR2 := hR
    obtain ⟨dx, rl, h1, h2⟩ := hR2
    exact ⟨_, rfl, home, dx, _, rfl, h1, mHome_find, _, rfl, home, i, ps, p, rfl, hR, hp, p, _, px, _, _, rfl, hP, cl_Person T, na_Person_area T, gPerson_area, k⟩
/-- a person's forwarding -/
def spHforward (K : PySem.W.Frag) : Sp := fun vs H Q _ => ∃ (home : Addr) (i : Nat) (ps : List Addr) (p : Addr) (d z : Str) (ar : V) (nd : Addr) (x : Str) (kvs : List (Key × V)), vs = [.ref home, natV i, .str x] ∧ RowsAt K H home ps ∧ ps[i]? = some p ∧ PersIs K H p d z ar nd ∧ H nd = some (.dK kvs) ∧ Q ((valV kvs (.inr x)).getD .non) H
theorem ok_Home_forward (T : Txt K mg) : Has P w K mg base CX0 2 (ma K (ga K "Home") "forward") ["self", "person", "kind"] (spHforward K) := by
  obtain ⟨fd, Fn⟩ := fd_Home_forward T
  obtain ⟨fd1, G_Home_find, b_Home_find, _⟩ := ok_Home_find (P := P) (w := w) (base := base) T
  refine ⟨fd, Fn.ok sc_Home_forward (fun vs H Q E h => ?_) (fun cdv A outer s H vs Q E hr h => ?_), bi_Home_forward Fn, Fn.kp⟩
  · obtain ⟨home, i, ps, p, d, z, ar, nd, x, kvs, rfl, _⟩ := h
    rfl
  · obtain ⟨home, i, ps, p, d, z, ar, nd, x, kvs, rfl, hR, hp, ⟨px, hP⟩, hD, k⟩ := h
    refine ⟨_, PSs.nox (pss_one (ps_ret (pe_dget1 (hu_of hr) (pe_fld (pe_meth (pv 0) (cl_Home T) (me_Home_find T) G_Home_find (hr.mono (by decide)) b_Home_find .nil pass0 (pa_cons (pv 1) pa_nil)) rfl) (pv 2) ⟨rfl, rfl, rfl, rfl⟩))), ?_⟩
    have hR2 := hR
    obtain ⟨dx, rl, h1, h2⟩ := hR2
    exact ⟨_, rfl, home, dx, _, rfl, h1, mHome_find, _, rfl, home, i, ps, p, rfl, hR, hp, p, _, px, _, _, rfl, hP, cl_Person T, na_Person_numbers T, gPerson_numbers, nd, rfl, .inl ⟨kvs, .inl hD⟩, _, rfl, _, DGet.k (k := Sum.inr x) hD, k⟩
end
end Wk
end
section
set_option Elab.async false
set_option linter.all false
set_option maxRecDepth 100000
/-! The walk: rule_for, find_goal. -/
namespace Wk
open PySem L2 He Mth Fl Wl Tx PyProof.Rows
theorem natV_inj {a b : Nat} (h : natV a = natV b) : a = b := by
  have : (a : Int) = (b : Int) := by injection h
  omega
theorem inV_nat (i : Nat) : ∀ bs : List Nat, inV (natV i) (bs.map natV) = decide (i ∈ bs)
  | [] => rfl
  | b :: bs => by
    show (eqV (natV b) (natV i) || inV (natV i) (bs.map natV)) = _
    rw [inV_nat i bs]
    have e : eqV (natV b) (natV i) = decide (i = b) := by
      show decide ((b : Int) = (i : Int)) = _
      by_cases z : i = b
      · simp [z]
      · have : ¬ (b : Int) = (i : Int) := by omega
        simp [z, this]
    rw [e]
    by_cases z : i = b <;> simp [z]
theorem flat_nat (bs : List Nat) : (bs.map natV).all flatV = true := by
  rw [List.all_eq_true]
  intro v hv
  obtain ⟨b, _, rfl⟩ := List.mem_map.mp hv
  rfl
theorem map_at2 {ps : List Addr} {n i : Nat} (hl : ps.length = n) (hi : i < n) : ∃ p, ps[i]? = some p ∧ p ∈ ps := by
  have h : i < ps.length := hl ▸ hi
  exact ⟨ps[i], List.getElem?_eq_getElem h, List.getElem_mem h⟩
section
variable {P : Program} {w : World} {K : PySem.W.Frag} {mg : Str → Option Value} {base : Heap} {F : Fx}
theorem homeRows {H : Hp} {home : Addr} {n : Nat} (h : HomeAt K H home n) : ∃ ps, RowsAt K H home ps ∧ ps.length = n ∧ ∀ p ∈ ps, PersonAt K H p := by
  obtain ⟨dx, rl, ps, h1, h2, h3, h4⟩ := h
  exact ⟨ps, ⟨dx, rl, h1, h2⟩, h3, h4⟩
theorem numV_get {kvs : List (Key × V)} (h : ∀ k v, valV kvs k = some v → NumV v) (k : Key) : NumV ((valV kvs k).getD .non) := by
  cases e : valV kvs k with
  | none => exact .inl rfl
  | some v => exact h k v e
/-- why a call does not go to this person -/
def spRule (K : PySem.W.Frag) : Sp := fun vs H Q _ => ∃ (home : Addr) (n i c : Nat) (bl : Addr) (bs : List Nat), vs = [.ref home, natV i, natV c, .ref bl] ∧ HomeAt K H home n ∧ i < n ∧ H bl = some (.lst (bs.map natV)) ∧
  ∀ H' t kind cause, Same H H' → H' t = some (.tup [kind, .int cause]) → (kind = .non ∧ i ≠ c ∧ i ∉ bs ∨ ∃ x, kind = .str x) → Q (.ref t) H'
theorem ok_rule_for (T : Txt K mg) : Has P w K mg base CX0 3 (ga K "rule_for") ["home", "person", "caller", "busy"] (spRule K) := by
  obtain ⟨fd, Fn⟩ := fd_rule_for T
  obtain ⟨_, G_Home_forward, b_Home_forward, k_Home_forward⟩ := ok_Home_forward (P := P) (w := w) (base := base) T
  obtain ⟨_, G_Home_area, b_Home_area, k_Home_area⟩ := ok_Home_area (P := P) (w := w) (base := base) T
  refine ⟨fd, Fn.ok sc_rule_for (fun vs H Q E h => ?_) (fun cdv A outer s H vs Q E hr h => ?_), bi_rule_for Fn, Fn.kp⟩
  · obtain ⟨home, n, i, c, bl, bs, rfl, _⟩ := h
    rfl
  · obtain ⟨home, n, i, c, bl, bs, rfl, hH, hi, hb, k⟩ := h
    obtain ⟨ps, hR, hl, hP⟩ := homeRows hH
    obtain ⟨p, hp, hp2⟩ := map_at2 hl hi
    obtain ⟨px, d, z, ar, nd, kvs, e1, e2, e3, e4⟩ := hP p hp2
    have hR2 := hR
    obtain ⟨dx, rl, h1, h2⟩ := hR2
    refine ⟨_, PSs.nox (pss_cons (ps_if (pt_cmpR op_notN (pe_meth (pv 0) (cl_Home T) (me_Home_forward T) G_Home_forward (hr.mono (by decide)) b_Home_forward .nil pass0 (pa_cons (pv 1) (pa_cons pe_str pa_nil))) pe_non (nomark _))
      (pss_one (ps_ret (pe_tup (pa_cons pe_str (pa_cons pe_int pa_nil)))))
      pss_nil)
    (pss_cons (ps_if (PW.pt (pw_or (pt_cmpR op_eq (pv 1) (pv 2) (nomark _)) (pw_or1 (pt_cmpR op_in_seq (pv 1) (pv 3) (by rfl)))))
      (pss_one (ps_ret (pe_tup (pa_cons pe_str (pa_cons pe_int pa_nil)))))
      pss_nil)
    (pss_cons (ps_if (pt_cmpR op_isN (pe_meth (pv 0) (cl_Home T) (me_Home_area T) G_Home_area (hr.mono (by decide)) b_Home_area .nil pass0 (pa_cons (pv 1) pa_nil)) pe_non (nomark _))
      (pss_one (ps_ret (pe_tup (pa_cons pe_str (pa_cons pe_int pa_nil)))))
      pss_nil)
    (pss_one (ps_ret (pe_tup (pa_cons pe_non (pa_cons pe_int pa_nil)))))))), ?_⟩
    refine ⟨_, rfl, home, dx, _, rfl, h1, mHome_forward, _, rfl, home, i, ps, p, d, z, ar, nd, _, kvs, rfl, hR, hp, ⟨px, e1⟩, e2, rfl, _, rfl, ?_⟩
    refine nC (fun _ => ?_) fun _ => ?_
    · exact ⟨Wk.bl, fun t nt => k _ t _ _ (same_upd nt) upd_same (.inr ⟨_, rfl⟩)⟩
    refine ⟨_, rfl, _, rfl, rfl, _, rfl, ?_⟩
    have fin : ∀ {x : Str} {j : Int}, ∀ t, H t = none → Q (.ref t) (upd H t (.tup [.str x, .int j])) := fun t nt => k _ t _ _ (same_upd nt) upd_same (.inr ⟨_, rfl⟩)
    refine tC (fun _ => ?_) fun ne => ?_
    · exact ⟨Wk.bl, fin⟩
    refine ⟨_, rfl, _, rfl, bl, _, rfl, .inl (SqL.of hb), rfl, flat_nat bs, _, rfl, ?_⟩
    rw [inV_nat]
    refine tC (fun _ => ?_) fun nb => ?_
    · exact ⟨Wk.bl, fin⟩
    refine ⟨_, rfl, home, dx, _, rfl, h1, mHome_area, _, rfl, home, i, ps, p, d, z, ar, nd, rfl, hR, hp, ⟨px, e1⟩, rfl, _, rfl, ?_⟩
    refine tC (fun _ => ?_) fun _ => ?_
    · exact ⟨Wk.bl, fin⟩
    · exact ⟨Wk.bl, fun t nt => k _ t _ _ (same_upd nt) upd_same (.inl ⟨rfl, fun q => ne (by rw [q]), nb⟩)⟩
theorem all_nums {H : Hp} : ∀ {ps : List Addr}, (∀ p ∈ ps, PersonAt K H p) → ∃ zs, Paired (fun p z => ∃ d y ar nd, PersIs K H p d y ar nd ∧ (if true then y else d) = z) ps zs
  | [], _ => ⟨[], .nil⟩
  | p :: ps, h => by
    obtain ⟨zs, hz⟩ := all_nums fun q hq => h q (List.mem_cons_of_mem _ hq)
    obtain ⟨px, d, z, ar, nd, kvs, e1, _⟩ := h p List.mem_cons_self
    exact ⟨z :: zs, .cons ⟨d, z, ar, nd, ⟨px, e1⟩, rfl⟩ hz⟩
def hopsLeft (σ : L2.St) : Nat := match ((σ : List (Option V))[4]? : Option (Option V)) with
  | some (some (V.int h)) => (2 - h).toNat
  | _ => 0
/-- where a call goes -/
def spGoal (K : PySem.W.Frag) : Sp := fun vs H Q _ => ∃ (home : Addr) (n c : Nat) (v : V) (bl : Addr) (bs : List Nat) (h : Int), vs = [.ref home, v, natV c, .ref bl, .int h] ∧ HomeAt K H home n ∧ NumV v ∧ H bl = some (.lst (bs.map natV)) ∧
  ∀ H' t goal cause hops, Same H H' → H' t = some (.tup [goal, .int cause, .int hops]) → (goal = .non ∨ ∃ g, goal = natV g ∧ g < n ∧ g ≠ c ∧ g ∉ bs) → Q (.ref t) H'
theorem ok_find_goal (T : Txt K mg) : Has P w K mg base CX0 4 (ga K "find_goal") ["home", "number", "caller", "busy", "hops"] (spGoal K) := by
  obtain ⟨fd, Fn⟩ := fd_find_goal T
  obtain ⟨_, G_Home_with_number, b_Home_with_number, k_Home_with_number⟩ := ok_Home_with_number (P := P) (w := w) (base := base) T
  obtain ⟨_, G_rule_for, b_rule_for, k_rule_for⟩ := ok_rule_for (P := P) (w := w) (base := base) T
  obtain ⟨_, G_Home_forward, b_Home_forward, k_Home_forward⟩ := ok_Home_forward (P := P) (w := w) (base := base) T
  obtain ⟨tHOPS, gHOPS⟩ := mg_HOPS T
  refine ⟨fd, Fn.ok sc_find_goal (fun vs H Q E h => ?_) (fun cdv A outer s H vs Q E hr h => ?_), bi_find_goal Fn, Fn.kp⟩
  · obtain ⟨home, n, c, v, bl, bs, h, rfl, _⟩ := h
    rfl
  · obtain ⟨home, n, c, v, bl, bs, h, rfl, hH, hv, hb, k⟩ := h
    refine ⟨_, PSs.nox (pss_one (ps_while PassesOwn.never (pt_val pe_bl)
      (pss_cons (ps_set (i := 5) sc_find_goal.nd rfl (Or.inl rfl) (pe_meth (pv 0) (cl_Home T) (me_Home_with_number T) G_Home_with_number (hr.mono (by decide)) b_Home_with_number .nil pass0 (pa_cons (pv 1) pa_nil)))
      (pss_cons (ps_if (pt_cmpR op_isN (pv 5) pe_non (nomark _))
        (pss_one (ps_ret (pe_tup (pa_cons pe_non (pa_cons pe_int (pa_cons (pv 4) pa_nil))))))
        pss_nil)
      (pss_cons (ps_asg (pe_call G_rule_for (hr.mono (by decide)) rfl (mg_rule_for T) k_rule_for b_rule_for .nil pass0 (pa_cons (pv 0) (pa_cons (pv 5) (pa_cons (pv 2) (pa_cons (pv 3) pa_nil))))) (pg_tup (by rfl) (pgs_cons (pg_name (i := 6) sc_find_goal.nd rfl (Or.inl rfl)) (pgs_cons (pg_name (i := 7) sc_find_goal.nd rfl (Or.inl rfl)) pgs_nil))))
      (pss_cons (ps_if (pt_cmpR op_isN (pv 6) pe_non (nomark _))
        (pss_one (ps_ret (pe_tup (pa_cons (pv 5) (pa_cons pe_int (pa_cons (pv 4) pa_nil))))))
        pss_nil)
      (pss_cons (ps_set (i := 1) sc_find_goal.nd rfl (Or.inl rfl) (pe_meth (pv 0) (cl_Home T) (me_Home_forward T) G_Home_forward (hr.mono (by decide)) b_Home_forward .nil pass0 (pa_cons (pv 5) (pa_cons (pv 6) pa_nil))))
      (pss_cons (ps_if (pt_cmpR op_isN (pv 1) pe_non (nomark _))
        (pss_one (ps_ret (pe_tup (pa_cons pe_non (pa_cons (pv 7) (pa_cons (pv 4) pa_nil))))))
        pss_nil)
      (pss_cons (ps_if (pt_cmpR op_ge (pv 4) (pe_glob (v := .int 2) rfl gHOPS ⟨_, rfl⟩) (nomark _))
        (pss_one (ps_ret (pe_tup (pa_cons pe_non (pa_cons pe_int (pa_cons (pv 4) pa_nil))))))
        pss_nil)
      (pss_one (ps_set (i := 4) sc_find_goal.nd rfl (Or.inl rfl) (pe_op op_add (pv 4) pe_int)))))))))))), ?_⟩
    refine while_by (fun σ H' => ∃ v h a b d, σ = [some (.ref home), some v, some (natV c), some (.ref bl), some (.int h), a, b, d] ∧ Same H H' ∧ NumV v) (fun σ _ => hopsLeft σ) ⟨v, h, none, none, none, rfl, Same.refl _, hv⟩ ?_
      (fun σ H Q Q' hq ⟨c, e, q⟩ => ⟨c, e, hq _ _ q⟩)
    rintro σ H1 ⟨v, h, a, b, d, rfl, s1, hv⟩
    have hH1 := HomeAt.mono s1 hH
    obtain ⟨ps, hR, hl, hP⟩ := homeRows hH1
    obtain ⟨zs, hz⟩ := all_nums hP
    have hR2 := hR
    obtain ⟨dx, rl, h1, h2⟩ := hR2
    have fin : ∀ {H2 : Hp} {g : V} {j u : Int}, Same H H2 → (g = .non ∨ ∃ q, g = natV q ∧ q < n ∧ q ≠ c ∧ q ∉ bs) → ∀ t, H2 t = none → Q (.ref t) (upd H2 t (.tup [g, .int j, .int u])) := fun s2 hg t nt => k _ t _ _ _ (s2.trans (same_upd nt)) upd_same hg
    refine ⟨true, rfl, iteT ?_⟩
    refine ⟨_, rfl, home, dx, _, rfl, h1, mHome_with_number, _, rfl, home, ps, zs, v, rfl, hR, hz, hv, fun H2 hno s2 => ?_, fun i z H2 hi ez s2 => ?_⟩
    · refine ⟨_, rfl, rfl, _, rfl, tT rfl ⟨_, rfl, Wk.bl, fin (s1.trans s2) (.inl rfl)⟩⟩
    · have hin : i < n := by
        have q := (List.getElem?_eq_some_iff.mp hi).1
        rw [← hz.length, hl] at q
        exact q
      have s12 := s1.trans s2
      refine ⟨_, rfl, rfl, _, rfl, tF (fun q => nomatch q) ?_⟩
      refine ⟨_, rfl, _, rfl, _, rfl, _, rfl, home, n, i, c, bl, bs, rfl, HomeAt.mono s12 hH, hin, s12 _ _ hb, fun H3 t kind cause s3 ht hk => ?_⟩
      refine ⟨t, _, rfl, SqT.of ht, rfl, _, _, rfl, _, _, rfl, rfl, ?_⟩
      have s13 := s12.trans s3
      rcases hk with ⟨rfl, hk1, hk2⟩ | ⟨x, rfl⟩
      · refine ⟨_, rfl, rfl, _, rfl, tT rfl ⟨_, rfl, _, rfl, Wk.bl, fin s13 (.inr ⟨i, rfl, hin, hk1, hk2⟩)⟩⟩
      · refine ⟨_, rfl, rfl, _, rfl, tF (fun q => nomatch q) ?_⟩
        have hH3 := HomeAt.mono s13 hH
        obtain ⟨ps3, hR3, hl3, hP3⟩ := homeRows hH3
        obtain ⟨p, hp, hp2⟩ := map_at2 hl3 hin
        obtain ⟨px, d1, z1, ar, nd, kvs, e1, e2, e3, e4⟩ := hP3 p hp2
        have hR32 := hR3
        obtain ⟨dx3, rl3, h13, h23⟩ := hR32
        refine ⟨_, rfl, home, dx3, _, rfl, h13, mHome_forward, _, rfl, _, rfl, home, i, ps3, p, d1, z1, ar, nd, x, kvs, rfl, hR3, hp, ⟨px, e1⟩, e2, ?_⟩
        have hnv := numV_get e3 (.inr x)
        generalize (valV kvs (Sum.inr x)).getD V.non = v2 at hnv ⊢
        refine ⟨_, rfl, rfl, _, rfl, tC (fun _ => ?_) fun _ => ?_⟩
        · exact ⟨_, rfl, _, rfl, Wk.bl, fin s13 (.inl rfl)⟩
        · refine ⟨_, rfl, _, _, rfl, rfl, _, rfl, tC (fun _ => ?_) fun lt => ?_⟩
          · exact ⟨_, rfl, Wk.bl, fin s13 (.inl rfl)⟩
          · refine ⟨_, rfl, _, _, rfl, rfl, ⟨v2, h + 1, _, _, _, rfl, s13, hnv⟩, ?_⟩
            show (2 - (h + 1)).toNat < (2 - h).toNat
            omega
end
end Wk
end
section
set_option Elab.async false
set_option linter.all false
set_option maxRecDepth 100000
/-! The walk: the switch, read. -/
namespace Wk
open PySem L2 He Mth Fl Wl Tx PyProof.Rows
def optC : Option Cl → V
  | some c => .ref c.ad
  | none => .non
theorem sg_inj {a b : Sg} (h : sgS a = sgS b) : a = b := by
  cases a <;> cases b <;> first | rfl | exact absurd h (by decide +kernel)
theorem nw_inj {a b : Nw} (h : nwS a = nwS b) : a = b := by
  cases a <;> cases b <;> first | rfl | exact absurd h (by decide +kernel)
theorem sg_eq (a b : Sg) : decide (V.str (sgS a) = V.str (sgS b)) = decide (a = b) := by
  by_cases z : a = b
  · rw [z, decide_eq_true rfl, decide_eq_true rfl]
  · rw [decide_eq_false z, decide_eq_false fun y => z (sg_inj (by injection y))]
theorem sg_ne (a b : Sg) : (!decide (V.str (sgS a) = V.str (sgS b))) = decide (a ≠ b) := by
  rw [sg_eq]
  by_cases z : a = b <;> simp [z]
theorem nw_eq (a b : Nw) : decide (V.str (nwS a) = V.str (nwS b)) = decide (a = b) := by
  by_cases z : a = b
  · rw [z, decide_eq_true rfl, decide_eq_true rfl]
  · rw [decide_eq_false z, decide_eq_false fun y => z (nw_inj (by injection y))]
theorem nw_ne (a b : Nw) : (!decide (V.str (nwS a) = V.str (nwS b))) = decide (a ≠ b) := by
  rw [nw_eq]
  by_cases z : a = b <;> simp [z]
theorem opt_nat {c : Option Nat} {p : Nat} : natV p = optV c ↔ c = some p := by
  cases c with
  | none => exact ⟨fun h => (nomatch h), fun h => nomatch h⟩
  | some q => exact ⟨fun h => by rw [natV_inj h], fun h => by rw [Option.some.inj h]; rfl⟩
theorem scal_opt {p : Nat} {c : Option Nat} : scal (natV p) (optV c) = true := by
  cases c <;> rfl
theorem scal_opt2 {p : Nat} {c : Option Nat} : scal (optV c) (natV p) = true := by
  cases c <;> rfl
theorem fnd_cons {c : Cl} {cs : List Cl} {p : Nat} : fnd (c :: cs) p = if hasSide p c = true then some c else fnd cs p := by
  unfold fnd
  rw [List.find?_cons]
  cases hasSide p c <;> rfl
theorem drop_at {α : Type} {l : List α} {i : Nat} {x : α} (h : l[i]? = some x) : l.drop i = x :: l.drop (i + 1) := by
  obtain ⟨hi, e⟩ := List.getElem?_eq_some_iff.mp h
  rw [List.drop_eq_getElem_cons hi, e]
theorem cl_at {cs : List Cl} {i : Nat} {x : V} (h : (cs.map fun c => V.ref c.ad)[i]? = some x) : ∃ c, cs[i]? = some c ∧ x = .ref c.ad := by
  rw [List.getElem?_map] at h
  cases e : cs[i]? with
  | none =>
    rw [e] at h
    cases h
  | some p =>
    rw [e] at h
    exact ⟨p, rfl, (Option.some.inj h).symm⟩
section
variable {P : Program} {w : World} {K : PySem.W.Frag} {mg : Str → Option Value} {base : Heap} {F : Fx}
def spFind (K : PySem.W.Frag) (F : Fx) : Sp := fun vs H Q _ => ∃ (B : Hp) (m : M) (p : Nat), vs = [.ref F.sw, natV p] ∧ Wd K F B m H ∧ Q (optC (fnd m.cs p)) H
theorem ok_Switch_find (T : Txt K mg) : Has P w K mg base CX0 1 (ma K (ga K "Switch") "find") ["self", "person"] (spFind K F) := by
  obtain ⟨fd, Fn⟩ := fd_Switch_find T
  refine ⟨fd, Fn.ok sc_Switch_find (fun vs H Q E h => ?_) (fun cdv A outer s H vs Q E hr h => ?_), bi_Switch_find Fn, Fn.kp⟩
  · obtain ⟨B, m, p, rfl, _⟩ := h
    rfl
  · obtain ⟨B, m, p, rfl, ⟨L, W⟩, k⟩ := h
    refine ⟨_, PSs.nox (pss_cons (ps_for PassesOwn.never rfl (pi_list (pe_fld (pv 0) rfl)) (pg_name (i := 2) sc_Switch_find.nd rfl (Or.inl rfl))
      (pss_one (ps_if (PW.pt (pw_or (pt_cmpR op_eq (pv 1) (pe_fld (pv 2) rfl) (nomark _)) (pw_or1 (pt_cmpR op_eq (pv 1) (pe_fld (pv 2) rfl) (nomark _)))))
        (pss_one (ps_ret (pv 2)))
        pss_nil)))
    (pss_one (ps_ret pe_non))), ?_⟩
    refine ⟨_, rfl, F.sw, _, _, _, _, rfl, W.atSw, cl_Switch T, na_Switch_rows T, gSwitch_rows, L.ad .rows, rfl, ⟨_, SqL.of W.atRows⟩, ?_⟩
    refine for_list (K := K) (a := L.ad .rows) (xs := m.cs.map fun c => .ref c.ad) (fun i σ H' => ∃ a, σ = [some (.ref F.sw), some (natV p), a] ∧ H' = H ∧ fnd m.cs p = fnd (m.cs.drop i) p) ⟨none, rfl, rfl, rfl⟩ (fun i σ H' _ ⟨_, _, e, _⟩ => by rw [e]; exact SqL.of W.atRows) ?_ ?_
    · rintro i x σ H1 hi ⟨a, rfl, rfl, he⟩
      obtain ⟨c, hc, rfl⟩ := cl_at hi
      have hm := List.mem_of_getElem? hc
      rw [drop_at hc, fnd_cons] at he
      refine ⟨_, rfl, _, rfl, c.ad, _, _, _, _, rfl, W.atCall hm, cl_Call T, na_Call_caller T, gCall_caller, rfl, _, rfl, ?_⟩
      refine tC (fun q => ?_) fun q => ?_
      · have hs : hasSide p c = true := by
          unfold hasSide
          rw [decide_eq_true (natV_inj q)]
          rfl
        rw [if_pos hs] at he
        rw [he] at k
        exact ⟨_, rfl, k⟩
      refine ⟨_, rfl, _, rfl, c.ad, _, _, _, _, rfl, W.atCall hm, cl_Call T, na_Call_called T, gCall_called, scal_opt, _, rfl, ?_⟩
      refine tC (fun q2 => ?_) fun q2 => ?_
      · have hs : hasSide p c = true := by
          unfold hasSide
          rw [decide_eq_true (opt_nat.mp q2), Bool.or_true]
        rw [if_pos hs] at he
        rw [he] at k
        exact ⟨_, rfl, k⟩
      · have hs : ¬ hasSide p c = true := by
          unfold hasSide
          rw [decide_eq_false fun z => q (by rw [z]), decide_eq_false fun z => q2 (opt_nat.mpr z)]
          exact Bool.false_ne_true
        rw [if_neg hs] at he
        exact ⟨_, rfl, rfl, he⟩
    · rintro σ H' ⟨a, rfl, rfl, he⟩
      have e : m.cs.drop (m.cs.map fun c => V.ref c.ad).length = [] := by
        rw [List.length_map]
        exact List.drop_eq_nil_of_le (Nat.le_refl _)
      rw [e] at he
      rw [he] at k
      exact k
/-- the call in which p is called, of some stages -/
def cin (cs : List Cl) (p : Nat) (ss : List Sg) : Option Cl := match fnd cs p with
  | none => none
  | some c => if c.cd = some p ∧ c.st ∈ ss then some c else none
theorem inV_str (x : Sg) : ∀ ss : List Sg, inV (.str (sgS x)) (ss.map fun s => V.str (sgS s)) = decide (x ∈ ss)
  | [] => rfl
  | b :: bs => by
    show (eqV (.str (sgS b)) (.str (sgS x)) || inV (.str (sgS x)) (bs.map fun s => V.str (sgS s))) = _
    rw [inV_str x bs]
    have e : eqV (.str (sgS b)) (.str (sgS x)) = decide (x = b) := by
      show (sgS b == sgS x) = _
      by_cases z : x = b
      · simp [z]
      · have : ¬ sgS b = sgS x := fun q => z (sg_inj q).symm
        simp [z, this]
    rw [e]
    by_cases z : x = b <;> simp [z]
theorem flat_strs (ss : List Sg) : (ss.map fun s => V.str (sgS s)).all flatV = true := by
  rw [List.all_eq_true]
  intro v hv
  obtain ⟨b, _, rfl⟩ := List.mem_map.mp hv
  rfl
def spCin (K : PySem.W.Frag) (F : Fx) : Sp := fun vs H Q _ => ∃ (B : Hp) (m : M) (p : Nat) (t : Addr) (ss : List Sg), vs = [.ref F.sw, natV p, .ref t] ∧ Wd K F B m H ∧ H t = some (.tup (ss.map fun s => V.str (sgS s))) ∧ Q (optC (cin m.cs p ss)) H
theorem ok_Switch_called_in (T : Txt K mg) : Has P w K mg base CX0 2 (ma K (ga K "Switch") "called_in") ["self", "person", "stages"] (spCin K F) := by
  obtain ⟨fd, Fn⟩ := fd_Switch_called_in T
  obtain ⟨_, G_Switch_find, b_Switch_find, k_Switch_find⟩ := ok_Switch_find (P := P) (w := w) (base := base) (F := F) T
  refine ⟨fd, Fn.ok sc_Switch_called_in (fun vs H Q E h => ?_) (fun cdv A outer s H vs Q E hr h => ?_), bi_Switch_called_in Fn, Fn.kp⟩
  · obtain ⟨B, m, p, t, ss, rfl, _⟩ := h
    rfl
  · obtain ⟨B, m, p, t, ss, rfl, W, ht, k⟩ := h
    have W2 := W
    obtain ⟨L, W2⟩ := W2
    refine ⟨_, PSs.nox (pss_cons (ps_set (i := 3) sc_Switch_called_in.nd rfl (Or.inl rfl) (pe_meth (pv 0) (cl_Switch T) (me_Switch_find T) G_Switch_find (hr.mono (by decide)) b_Switch_find .nil pass0 (pa_cons (pv 1) pa_nil)))
    (pss_cons (ps_if (PW.pt (pw_or (pt_cmpR op_isN (pv 3) pe_non (nomark _)) (pw_or (pt_cmpR op_ne (pe_fld (pv 3) rfl) (pv 1) (nomark _)) (pw_or1 (pt_cmpR op_notIn_seq (pe_fld (pv 3) rfl) (pv 2) (by rfl))))))
      (pss_one (ps_ret pe_non))
      pss_nil)
    (pss_one (ps_ret (pv 3))))), ?_⟩
    refine ⟨_, rfl, F.sw, _, _, rfl, W2.atSw, mSwitch_find, _, rfl, B, m, p, rfl, W, ?_⟩
    unfold cin at k
    cases ef : fnd m.cs p with
    | none =>
      rw [ef] at k
      exact ⟨_, rfl, rfl, _, rfl, tT rfl k⟩
    | some c =>
      rw [ef] at k
      dsimp only at k
      have hm := (fnd_some ef).1
      refine ⟨_, rfl, rfl, _, rfl, tF (fun q => nomatch q) ?_⟩
      refine ⟨_, rfl, c.ad, _, _, _, _, rfl, W2.atCall hm, cl_Call T, na_Call_called T, gCall_called, _, rfl, scal_opt2, _, rfl, ?_⟩
      refine nC (fun q => ?_) fun q => ?_
      · rw [if_neg fun z => q (opt_nat.mpr z.1).symm] at k
        exact k
      refine ⟨_, rfl, c.ad, _, _, _, _, rfl, W2.atCall hm, cl_Call T, na_Call_stage T, gCall_stage, _, rfl, t, _, rfl, .inr (SqT.of ht), rfl, flat_strs ss, _, rfl, ?_⟩
      rw [inV_str]
      refine nC (fun q2 => ?_) fun q2 => ?_
      · rw [if_neg fun z => q2 z.2] at k
        exact k
      · rw [if_pos ⟨opt_nat.mp q.symm, q2⟩] at k
        exact ⟨_, rfl, k⟩
def legB (cs : List Cl) (p : Nat) : Bool := match fnd cs p with
  | none => false
  | some c => decide (p = c.cr) || decide (c.st ≠ .looking)
def spLeg (K : PySem.W.Frag) (F : Fx) : Sp := fun vs H Q _ => ∃ (B : Hp) (m : M) (p : Nat), vs = [.ref F.sw, natV p] ∧ Wd K F B m H ∧ Q (.bl (legB m.cs p)) H
theorem ok_Switch_is_leg (T : Txt K mg) : Has P w K mg base CX0 2 (ma K (ga K "Switch") "is_leg") ["self", "person"] (spLeg K F) := by
  obtain ⟨fd, Fn⟩ := fd_Switch_is_leg T
  obtain ⟨_, G_Switch_find, b_Switch_find, k_Switch_find⟩ := ok_Switch_find (P := P) (w := w) (base := base) (F := F) T
  refine ⟨fd, Fn.ok sc_Switch_is_leg (fun vs H Q E h => ?_) (fun cdv A outer s H vs Q E hr h => ?_), bi_Switch_is_leg Fn, Fn.kp⟩
  · obtain ⟨B, m, p, rfl, _⟩ := h
    rfl
  · obtain ⟨B, m, p, rfl, W, k⟩ := h
    have W2 := W
    obtain ⟨L, W2⟩ := W2
    refine ⟨_, PSs.nox (pss_cons (ps_set (i := 2) sc_Switch_is_leg.nd rfl (Or.inl rfl) (pe_meth (pv 0) (cl_Switch T) (me_Switch_find T) G_Switch_find (hr.mono (by decide)) b_Switch_find .nil pass0 (pa_cons (pv 1) pa_nil)))
    (pss_cons (ps_if (pt_cmpR op_isN (pv 2) pe_non (nomark _))
      (pss_one (ps_ret pe_bl))
      pss_nil)
    (pss_one (ps_ret (pe_or (pe_cmpR op_eq (pv 1) (pe_fld (pv 2) rfl) (nomark _)) (pe_one (pe_cmpR op_ne (pe_fld (pv 2) rfl) pe_str (nomark _)))))))), ?_⟩
    refine ⟨_, rfl, F.sw, _, _, rfl, W2.atSw, mSwitch_find, _, rfl, B, m, p, rfl, W, ?_⟩
    unfold legB at k
    cases ef : fnd m.cs p with
    | none =>
      rw [ef] at k
      exact ⟨_, rfl, rfl, _, rfl, tT rfl k⟩
    | some c =>
      rw [ef] at k
      dsimp only at k
      have hm := (fnd_some ef).1
      refine ⟨_, rfl, rfl, _, rfl, tF (fun q => nomatch q) ?_⟩
      refine ⟨_, rfl, _, rfl, c.ad, _, _, _, _, rfl, W2.atCall hm, cl_Call T, na_Call_caller T, gCall_caller, rfl, _, rfl, ?_⟩
      refine tC (fun q => ?_) fun q => ?_
      · rw [decide_eq_true (natV_inj q)] at k
        exact k
      · rw [decide_eq_false fun z => q (by rw [z])] at k
        refine ⟨_, rfl, c.ad, _, _, _, _, rfl, W2.atCall hm, cl_Call T, na_Call_stage T, gCall_stage, rfl, ?_⟩
        have e : (!decide (V.str (sgS c.st) = V.str "looking")) = decide (c.st ≠ .looking) := sg_ne c.st .looking
        rw [e]
        exact k
def spOther (K : PySem.W.Frag) (F : Fx) : Sp := fun vs H Q _ => ∃ (B : Hp) (m : M) (c : Cl) (p : Nat), vs = [.ref c.ad, natV p] ∧ Wd K F B m H ∧ c ∈ m.cs ∧ Q (if p = c.cr then optV c.cd else natV c.cr) H
theorem ok_Call_other (T : Txt K mg) : Has P w K mg base CX0 1 (ma K (ga K "Call") "other") ["self", "person"] (spOther K F) := by
  obtain ⟨fd, Fn⟩ := fd_Call_other T
  refine ⟨fd, Fn.ok sc_Call_other (fun vs H Q E h => ?_) (fun cdv A outer s H vs Q E hr h => ?_), bi_Call_other Fn, Fn.kp⟩
  · obtain ⟨B, m, c, p, rfl, _⟩ := h
    rfl
  · obtain ⟨B, m, c, p, rfl, ⟨L, W⟩, hc, k⟩ := h
    refine ⟨_, PSs.nox (pss_one (ps_ret (pe_ifExp (pt_cmpR op_eq (pv 1) (pe_fld (pv 0) rfl) (nomark _)) (pe_fld (pv 0) rfl) (pe_fld (pv 0) rfl)))), ?_⟩
    refine ⟨_, rfl, _, rfl, c.ad, _, _, _, _, rfl, W.atCall hc, cl_Call T, na_Call_caller T, gCall_caller, rfl, _, rfl, ?_⟩
    refine tC (fun q => ?_) fun q => ?_
    · rw [if_pos (natV_inj q)] at k
      exact ⟨_, rfl, c.ad, _, _, _, _, rfl, W.atCall hc, cl_Call T, na_Call_called T, gCall_called, k⟩
    · rw [if_neg fun z => q (by rw [z])] at k
      exact ⟨_, rfl, c.ad, _, _, _, _, rfl, W.atCall hc, cl_Call T, na_Call_caller T, gCall_caller, k⟩
end
end Wk
end
section
set_option Elab.async false
set_option linter.all false
set_option maxRecDepth 100000
/-! The walk: the sides, the calls, the book. -/
namespace Wk
open PySem L2 He Mth Fl Wl Tx PyProof.Rows
def sidesV (cs : List Cl) : List V := cs.flatMap fun c => [natV c.cr, optV c.cd]
theorem sidesV_len : ∀ cs : List Cl, (sidesV cs).length = 2 * cs.length
  | [] => rfl
  | c :: cs => by
    show (natV c.cr :: optV c.cd :: sidesV cs).length = _
    rw [List.length_cons, List.length_cons, sidesV_len cs, List.length_cons]
    omega
theorem take_at {α : Type} {l : List α} {i : Nat} {x : α} (h : l[i]? = some x) : l.take (i + 1) = l.take i ++ [x] := by
  rw [List.take_add_one, h]
  rfl
theorem ixN_at {n j : Nat} (h : j < n) : ixN n (j : Int) = some j := by
  unfold ixN
  rw [if_pos (Int.natCast_nonneg j), if_pos (by omega)]
  simp
theorem small {a N : Nat} (h : a ≤ N) (k : N ≤ 1000000 := by first | exact bl | omega) : a ≤ sizeLine := Nat.le_trans (Nat.le_trans h k) bl
theorem small1 {a N : Nat} (h : a ≤ N) (k : N ≤ 1000000) : a < sizeLine := Nat.lt_of_le_of_lt (Nat.le_trans h k) bl
section
variable {P : Program} {w : World} {K : PySem.W.Frag} {mg : Str → Option Value} {base : Heap} {F : Fx}
def spSides (K : PySem.W.Frag) (F : Fx) : Sp := fun vs H Q _ => ∃ (B : Hp) (m : M), vs = [.ref F.sw] ∧ Wd K F B m H ∧ m.cs.length ≤ 1000 ∧ ∀ H' l, Same H H' → H l = none → H' l = some (.lst (sidesV m.cs)) → Q (.ref l) H'
theorem ok_Switch_sides (T : Txt K mg) : Has P w K mg base CX0 1 (ma K (ga K "Switch") "sides") ["self"] (spSides K F) := by
  obtain ⟨fd, Fn⟩ := fd_Switch_sides T
  refine ⟨fd, Fn.ok sc_Switch_sides (fun vs H Q E h => ?_) (fun cdv A outer s H vs Q E hr h => ?_), bi_Switch_sides Fn, Fn.kp⟩
  · obtain ⟨B, m, rfl, _⟩ := h
    rfl
  · obtain ⟨B, m, rfl, ⟨L, W⟩, hl, k⟩ := h
    refine ⟨_, PSs.nox (pss_cons (ps_set (i := 1) sc_Switch_sides.nd rfl (Or.inl rfl) (pe_lst pa_nil))
    (pss_cons (ps_for PassesOwn.never rfl (pi_list (pe_fld (pv 0) rfl)) (pg_name (i := 2) sc_Switch_sides.nd rfl (Or.inl rfl))
      (pss_one (ps_expr (pe_bm PySem.F.plainAttrs_list PySem.F.slot_list_extend PySem.F.type_list_extend mt_extend (pv 1) (pa_cons (pe_lst (pa_cons (pe_fld (pv 2) rfl) (pa_cons (pe_fld (pv 2) rfl) pa_nil))) pa_nil)))))
    (pss_one (ps_ret (pv 1))))), ?_⟩
    refine ⟨Wk.bl, fun l nl => ?_⟩
    have s0 : Same H (upd H l (.lst [])) := same_upd nl
    have Wr := s0 _ _ W.atRows
    refine ⟨_, rfl, F.sw, _, _, _, _, rfl, s0 _ _ W.atSw, cl_Switch T, na_Switch_rows T, gSwitch_rows, L.ad .rows, rfl, ⟨_, SqL.of Wr⟩, ?_⟩
    refine for_list (K := K) (a := L.ad .rows) (xs := m.cs.map fun c => .ref c.ad) (fun i σ H' => ∃ a, σ = [some (.ref F.sw), some (.ref l), a] ∧ Same H H' ∧ H' l = some (.lst (sidesV (m.cs.take i)))) ⟨none, rfl, s0, upd_same⟩ (fun i σ H' _ ⟨_, _, s, _⟩ => SqL.of (s _ _ W.atRows)) ?_ ?_
    · rintro i x σ H1 hi ⟨a, rfl, s1, h1⟩
      obtain ⟨c, hc, rfl⟩ := cl_at hi
      have hm := List.mem_of_getElem? hc
      have hC := s1 _ _ (W.atCall hm)
      refine ⟨_, rfl, .inl ⟨rfl, _, SqL.of h1⟩, _, rfl, c.ad, _, _, _, _, rfl, hC, cl_Call T, na_Call_caller T, gCall_caller, _, rfl, c.ad, _, _, _, _, rfl, hC, cl_Call T, na_Call_called T, gCall_called, Wk.bl, fun t nt => ?_⟩
      have lt : l ≠ t := ne_of_none h1 nt
      refine ⟨l, t, _, _, rfl, rfl, (upd_ne lt).trans h1, upd_same, ?_, _, rfl, ?_, ?_⟩
      · rw [sidesV_len, List.length_take]
        exact small (N := 2002) (by show 2 * min i m.cs.length + 2 ≤ 2002; omega)
      · intro b o e
        have n1 : b ≠ l := ne_of_none e nl
        have e1 := s1 _ _ e
        rw [upd_ne n1, upd_ne (ne_of_none e1 nt)]
        exact e1
      · rw [upd_same, take_at hc]
        unfold sidesV
        rw [List.flatMap_append]
        rfl
    · rintro σ H' ⟨a, rfl, s1, h1⟩
      have e : m.cs.take (m.cs.map fun c => V.ref c.ad).length = m.cs := by
        rw [List.length_map]
        exact List.take_length
      rw [e] at h1
      exact ⟨_, rfl, k _ _ s1 nl h1⟩
/-- a call's row for the law -/
def CallT (H : Hp) (t : Addr) (c : Cl) : Prop := H t = some (.tup [natV c.cr, optV c.cd, .str (sgS c.st)])
def spCalls (K : PySem.W.Frag) (F : Fx) : Sp := fun vs H Q _ => ∃ (B : Hp) (m : M), vs = [.ref F.sw] ∧ Wd K F B m H ∧ m.cs.length ≤ 1000 ∧ ∀ H' l ts, Same H H' → H' l = some (.lst (ts.map V.ref)) → Paired (CallT H') ts m.cs → Q (.ref l) H'
theorem ok_Switch_calls (T : Txt K mg) : Has P w K mg base CX0 1 (ma K (ga K "Switch") "calls") ["self"] (spCalls K F) := by
  obtain ⟨fd, Fn⟩ := fd_Switch_calls T
  refine ⟨fd, Fn.ok sc_Switch_calls (fun vs H Q E h => ?_) (fun cdv A outer s H vs Q E hr h => ?_), bi_Switch_calls Fn, Fn.kp⟩
  · obtain ⟨B, m, rfl, _⟩ := h
    rfl
  · obtain ⟨B, m, rfl, ⟨L, W⟩, hl, k⟩ := h
    refine ⟨_, PSs.nox (pss_one (ps_ret (pe_lc (own := [("call", 1)]) (g := gName 1) (tt := tYes) (te := (tTup (tCons (tFld K (tVar 1) "caller") (tCons (tFld K (tVar 1) "called") (tCons (tFld K (tVar 1) "stage") tNil))))) rfl sc_Switch_calls.nd (pi_list (pe_fld (pv 0) rfl)) (blkOk_by (own := [("call", 1)]) (N := n_Switch_calls) (sc := defScope s_Switch_calls) (by decide +kernel)) (fun _ _ _ _ _ => pg_name (i := 1) sc_Switch_calls.nd rfl (Or.inl rfl)) (fun _ _ _ _ _ => pts_nil) (fun _ _ _ _ _ => (pe_tup (pa_cons (pe_fld (pv 1) rfl) (pa_cons (pe_fld (pv 1) rfl) (pa_cons (pe_fld (pv 1) rfl) pa_nil)))))))), ?_⟩
    refine ⟨_, rfl, F.sw, _, _, _, _, rfl, W.atSw, cl_Switch T, na_Switch_rows T, gSwitch_rows, L.ad .rows, rfl, ⟨_, SqL.of W.atRows⟩, fun D nD => ?_⟩
    have s0 : Same H (upd H D (.lst [])) := same_upd nD
    refine lc_list (K := K) (a := L.ad .rows) (xs := m.cs.map fun c => .ref c.ad) (fun i H' => ∃ ts : List Addr, Same H H' ∧ H' D = some (.lst (ts.map V.ref)) ∧ Paired (CallT H') ts (m.cs.take i)) ⟨[], s0, upd_same, .nil⟩ (fun i H' _ ⟨_, s, _⟩ => SqL.of (s _ _ W.atRows)) ?_ ?_
    · rintro i x H1 hi ⟨ts, s1, h1, hT⟩
      obtain ⟨c, hc, rfl⟩ := cl_at hi
      have hm := List.mem_of_getElem? hc
      have hC := s1 _ _ (W.atCall hm)
      refine ⟨rfl, ?_⟩
      refine ⟨_, rfl, c.ad, _, _, _, _, rfl, hC, cl_Call T, na_Call_caller T, gCall_caller, _, rfl, c.ad, _, _, _, _, rfl, hC, cl_Call T, na_Call_called T, gCall_called, _, rfl, c.ad, _, _, _, _, rfl, hC, cl_Call T, na_Call_stage T, gCall_stage, Wk.bl, fun t nt => ?_⟩
      have Dt : D ≠ t := ne_of_none h1 nt
      have len := hT.length
      rw [List.length_take] at len
      refine ⟨_, (upd_ne Dt).trans h1, ?_, ts ++ [t], ?_, ?_, ?_⟩
      · rw [List.length_map]
        exact small1 (N := 1000) (by omega) bl
      · intro b o e
        have n1 : b ≠ D := ne_of_none e nD
        have e1 := s1 _ _ e
        rw [upd_ne n1, upd_ne (ne_of_none e1 nt)]
        exact e1
      · rw [upd_same, List.map_append]
        rfl
      · rw [take_at hc]
        refine all2_app (all2_mono (fun a b q => ?_) hT) (.cons ?_ .nil)
        · have q : H1 a = some (.tup [natV b.cr, optV b.cd, .str (sgS b.st)]) := q
          have aD : a ≠ D := ne_of q h1 fun z => nomatch z
          show upd (upd H1 t _) D _ a = _
          rw [upd_ne aD, upd_ne (ne_of_none q nt)]
          exact q
        · show upd (upd H1 t _) D _ t = _
          rw [upd_ne Dt.symm, upd_same]
    · rintro H' ⟨ts, s1, h1, hT⟩
      have e : m.cs.take (m.cs.map fun c => V.ref c.ad).length = m.cs := by
        rw [List.length_map]
        exact List.take_length
      rw [e] at hT
      exact k _ _ _ s1 h1 hT
/-! ### the book -/
def spBegin (K : PySem.W.Frag) (F : Fx) : Sp := fun vs H Q _ => ∃ (B : Hp) (m : M) (a u t : V), vs = [.ref F.bk, a, u, t] ∧ Wd K F B m H ∧ m.bk.length ≤ 1000000 ∧ ∀ B' H', Same B B' → Wd K F B' { m with bk := m.bk ++ [true] } H' → Q (natV m.bk.length) H'
theorem ok_Book_begin (T : Txt K mg) : Has P w K mg base CX0 1 (ma K (ga K "Book") "begin") ["self", "caller", "called", "tick"] (spBegin K F) := by
  obtain ⟨fd, Fn⟩ := fd_Book_begin T
  refine ⟨fd, Fn.ok sc_Book_begin (fun vs H Q E h => ?_) (fun cdv A outer s H vs Q E hr h => ?_), bi_Book_begin Fn, Fn.kp⟩
  · obtain ⟨B, m, a, u, t, rfl, _⟩ := h
    rfl
  · obtain ⟨B, m, a, u, t, rfl, ⟨L, W⟩, hl, k⟩ := h
    refine ⟨_, PSs.nox (pss_cons (ps_expr (pe_bm PySem.F.plainAttrs_list PySem.F.slot_list_append PySem.F.type_list_append mt_append (pe_fld (pv 0) rfl) (pa_cons (pe_tup (pa_cons (pv 1) (pa_cons (pv 2) (pa_cons (pv 3) (pa_cons pe_non (pa_cons pe_non pa_nil)))))) pa_nil)))
    (pss_one (ps_ret (pe_op op_sub (pe_callB call_len_seq (by rfl) (fr_len T) PySem.boot_len (pa_cons (pe_fld (pv 0) rfl) pa_nil)) pe_int)))), ?_⟩
    refine ⟨_, rfl, F.bk, _, _, _, _, rfl, W.atBk, cl_Book T, na_Book_rows T, gBook_rows, .inl ⟨rfl, _, SqL.of W.atBkr⟩, _, rfl, _, rfl, _, rfl, Wk.bl, fun p np => ?_⟩
    obtain ⟨W1, s1⟩ := W.imm np (.tup [a, u, t, .non, .non])
    have len := all2_len W.book
    refine ⟨F.bkr, _, _, rfl, rfl, W1.atBkr, by rw [List.length_map]; exact small1 (N := 1000000) (by omega) bl, ?_⟩
    have W2 := W1.bkApp (a := p) (b := true) ⟨a, u, t, .non, .non, upd_same, ⟨fun _ => rfl, fun _ => rfl⟩, .inl rfl⟩
    refine ⟨_, rfl, F.bk, _, _, _, _, rfl, W2.atBk, cl_Book T, na_Book_rows T, gBook_rows, F.bkr, _, rfl, .inl (SqL.of W2.atBkr), _, _, rfl, rfl, ?_⟩
    have e : (V.int (((((L.bkA ++ [p]).map V.ref).length : Nat) : Int) - 1)) = natV m.bk.length := by
      rw [List.length_map, List.length_append, len]
      show V.int _ = V.int _
      congr 1
      show ((m.bk.length + 1 : Nat) : Int) - 1 = _
      omega
    show Q (V.int (((((L.bkA ++ [p]).map V.ref).length : Nat) : Int) - 1)) _
    rw [e]
    exact k _ _ s1 ⟨_, W2⟩
def spEnd (K : PySem.W.Frag) (F : Fx) : Sp := fun vs H Q _ => ∃ (B : Hp) (m : M) (n : Nat) (t : Int) (c : V), vs = [.ref F.bk, natV n, .int t, c] ∧ Wd K F B m H ∧ m.bk[n]? = some true ∧ ∀ B' H', Same B B' → Wd K F B' { m with bk := m.bk.set n false } H' → Q .non H'
theorem ok_Book_end (T : Txt K mg) : Has P w K mg base CX0 1 (ma K (ga K "Book") "end") ["self", "line", "tick", "cause"] (spEnd K F) := by
  obtain ⟨fd, Fn⟩ := fd_Book_end T
  refine ⟨fd, Fn.ok sc_Book_end (fun vs H Q E h => ?_) (fun cdv A outer s H vs Q E hr h => ?_), bi_Book_end Fn, Fn.kp⟩
  · obtain ⟨B, m, n, t, c, rfl, _⟩ := h
    rfl
  · obtain ⟨B, m, n, t, c, rfl, ⟨L, W⟩, hn, k⟩ := h
    refine ⟨_, PSs.nox (pss_cons (ps_asg (pe_ix ix_list (pe_fld (pv 0) rfl) (pv 1) (fun _ _ => rfl)) (pg_tup (by rfl) (pgs_cons (pg_name (i := 4) sc_Book_end.nd rfl (Or.inl rfl)) (pgs_cons (pg_name (i := 5) sc_Book_end.nd rfl (Or.inl rfl)) (pgs_cons (pg_name (i := 6) sc_Book_end.nd rfl (Or.inl rfl)) (pgs_cons (pg_name (i := 7) sc_Book_end.nd rfl (Or.inl rfl)) (pgs_cons (pg_name (i := 8) sc_Book_end.nd rfl (Or.inl rfl)) pgs_nil)))))))
    (pss_cons (ps_if (pt_cmpR op_notN (pv 7) pe_non (nomark _))
      (pss_one (ps_never))
      pss_nil)
    (pss_one (ps_asg (pe_tup (pa_cons (pv 4) (pa_cons (pv 5) (pa_cons (pv 6) (pa_cons (pv 2) (pa_cons (pv 3) pa_nil)))))) (pg_sub (pe_fld (pv 0) rfl) (pv 1) set_list))))), ?_⟩
    obtain ⟨a, ha, x, y, z, en, ca, hrow, hopen, _⟩ := all2_get W.book hn
    obtain rfl : en = .non := hopen.mpr rfl
    have ha2 : (L.bkA.map V.ref)[n]? = some (.ref a) := by
      rw [List.getElem?_map, ha]
      rfl
    refine ⟨_, rfl, F.bk, _, _, _, _, rfl, W.atBk, cl_Book T, na_Book_rows T, gBook_rows, _, rfl, F.bkr, _, _, _, rfl, rfl, SqL.of W.atBkr, atI_nat ha2, ?_⟩
    refine ⟨a, _, rfl, SqT.of (W.same _ _ hrow), rfl, _, _, rfl, _, _, rfl, _, _, rfl, _, _, rfl, _, _, rfl, rfl, ?_⟩
    refine ⟨_, rfl, rfl, _, rfl, nF rfl ?_⟩
    refine ⟨_, rfl, _, rfl, _, rfl, _, rfl, _, rfl, Wk.bl, fun p np => ?_⟩
    obtain ⟨W1, s1⟩ := W.imm np (.tup [x, y, z, .int t, c])
    have W2 := W1.bkSet (a := p) (b := false) n ⟨x, y, z, .int t, c, upd_same, ⟨fun q => (nomatch q), fun q => nomatch q⟩, .inr ⟨t, rfl⟩⟩
    have hlt : n < (L.bkA.map V.ref).length := by
      have q := (List.getElem?_eq_some_iff.mp ha2).1
      exact q
    exact ⟨_, rfl, F.bk, _, _, _, _, rfl, W1.atBk, cl_Book T, na_Book_rows T, gBook_rows, _, rfl, F.bkr, _, _, n, rfl, rfl, W1.atBkr, ixN_at hlt, k _ _ s1 ⟨_, W2⟩⟩
/-- a call's making -/
def newC (x : Addr) (a g : Nat) (h : Int) : Cl := ⟨x, a, some g, .looking, h, 0, none⟩
def spCallI (K : PySem.W.Frag) : Sp := fun vs H Q _ => ∃ (x dx : Addr) (a g : Nat) (h : Int), vs = [.ref x, natV a, natV g, .int h] ∧ H x = some (.ins (ga K "Call") dx []) ∧ ∀ H', (∀ b, b ≠ x → H' b = H b) → H' x = some (.ins (ga K "Call") dx (clF (newC x a g h))) → Q .non H'
theorem ok_Call_init (T : Txt K mg) : Has P w K mg base CX0 1 (ma K (ga K "Call") "__init__") ["self", "caller", "called", "hops"] (spCallI K) := by
  obtain ⟨fd, Fn⟩ := fd_Call_init T
  refine ⟨fd, Fn.ok sc_Call_init (fun vs H Q E h => ?_) (fun cdv A outer s H vs Q E hr h => ?_), bi_Call_init Fn, Fn.kp⟩
  · obtain ⟨x, dx, a, g, h, rfl, _⟩ := h
    rfl
  · obtain ⟨x, dx, a, g, h, rfl, hx, k⟩ := h
    refine ⟨_, PSs.nox (pss_cons (ps_fld (pv 0) (pv 1) rfl)
    (pss_cons (ps_fld (pv 0) (pv 2) rfl)
    (pss_cons (ps_fld (pv 0) pe_str rfl)
    (pss_cons (ps_fld (pv 0) (pv 3) rfl)
    (pss_cons (ps_fld (pv 0) pe_int rfl)
    (pss_one (ps_fld (pv 0) pe_non rfl))))))), ?_⟩
    refine ⟨_, rfl, _, rfl, x, _, dx, _, rfl, hx, cl_Call T, na_Call_caller T, Wk.bl, ?_⟩
    refine ⟨_, rfl, _, rfl, x, _, dx, _, rfl, upd_same, cl_Call T, na_Call_called T, Wk.bl, ?_⟩
    refine ⟨_, rfl, x, _, dx, _, rfl, upd_same, cl_Call T, na_Call_stage T, Wk.bl, ?_⟩
    refine ⟨_, rfl, _, rfl, x, _, dx, _, rfl, upd_same, cl_Call T, na_Call_hops T, Wk.bl, ?_⟩
    refine ⟨_, rfl, x, _, dx, _, rfl, upd_same, cl_Call T, na_Call_since T, Wk.bl, ?_⟩
    refine ⟨_, rfl, x, _, dx, _, rfl, upd_same, cl_Call T, na_Call_line T, Wk.bl, ?_⟩
    refine k _ (fun b nb => ?_) ?_
    · rw [upd_ne nb, upd_ne nb, upd_ne nb, upd_ne nb, upd_ne nb, upd_ne nb]
    · rw [upd_same, iCall]
      rfl
end
end Wk
end
section
set_option Elab.async false
set_option linter.all false
set_option maxRecDepth 100000
/-! The walk: clear, drop, leave, disconnect, lost. -/
namespace Wk
open PySem L2 He Mth Fl Wl Tx PyProof.Rows
section
variable {P : Program} {w : World} {K : PySem.W.Frag} {mg : Str → Option Value} {base : Heap} {F : Fx}
theorem clF_ph {c : Cl} {d : Pd} {s h : Addr} (e : phF d s h = clF c) : False := by
  have a : (phF d s h).lookup ("now" : Str) = (clF c).lookup ("now" : Str) := by rw [e]
  have b : (clF c).lookup ("now" : Str) = none := by
    unfold clF
    kernel_rfl
  unfold phF at a
  rw [gPhoneCall_now, b] at a
  cases a
theorem clF_sw {c : Cl} {x y z : V} (e : FSwitch x y z = clF c) : False := by
  have a : (FSwitch x y z).lookup ("home" : Str) = (clF c).lookup ("home" : Str) := by rw [e]
  have b : (clF c).lookup ("home" : Str) = none := by
    unfold clF
    kernel_rfl
  rw [gSwitch_home, b] at a
  cases a
theorem clF_bk {c : Cl} {x : V} (e : FBook x = clF c) : False := by
  have a : (FBook x).lookup ("rows" : Str) = (clF c).lookup ("rows" : Str) := by rw [e]
  have b : (clF c).lookup ("rows" : Str) = none := by
    unfold clF
    kernel_rfl
  rw [gBook_rows, b] at a
  cases a
/-- a thing that is no longer the network's stays as it is -/
theorem freeze {B H : Hp} {L : Lay} {m : M} {p : Addr} {o : HO} (h : WL K F B L m H) (e : H p = some o) (fr : Fr K F B L m p) : WL K F (upd B p o) L m H ∧ Same B (upd B p o) := by
  have sB := same_upd (o := o) fr.1
  refine ⟨⟨fun b u eb => ?_, h.objs, h.inj, fun r u er => ?_, h.fix, h.base.mono sB, fun i hi => (h.fine i hi).mono sB, all2_mono (fun a b k => ?_) h.book, h.ads⟩, sB⟩
  · by_cases z : b = p
    · rw [z, upd_same] at eb
      rw [z, e]
      exact eb
    · rw [upd_ne z] at eb
      exact h.same _ _ eb
  · rw [upd_ne (fr.2 r u er)]
    exact h.out r u er
  · obtain ⟨x, y, z, t, u, k1, k2⟩ := k
    exact ⟨x, y, z, t, u, sB _ _ k1, k2⟩
theorem acts_nil {B : Hp} {l : Addr} (h : B l = some (.lst [])) : ActsAt B l [] := ⟨[], h, .nil⟩
def spClear (K : PySem.W.Frag) (F : Fx) : Sp := fun vs H Q _ => ∃ (B : Hp) (m : M) (c : Cl) (q : Nat) (cause : V), vs = [.ref F.sw, .ref c.ad, natV q, cause] ∧ (∃ j : Int, cause = .int j) ∧ Wd K F B m H ∧ c ∈ m.cs ∧ ∀ B' H' l, Same B B' → Wd K F B' m H' → ActsAt B' l (clr c q cause) → Q (.ref l) H'
theorem ok_Switch_clear (T : Txt K mg) : Has P w K mg base CX0 2 (ma K (ga K "Switch") "clear") ["self", "call", "person", "cause"] (spClear K F) := by
  obtain ⟨fd, Fn⟩ := fd_Switch_clear T
  obtain ⟨_, G_refuse, b_refuse, k_refuse⟩ := ok_refuse (P := P) (w := w) (base := base) (F := F) T
  refine ⟨fd, Fn.ok sc_Switch_clear (fun vs H Q E h => ?_) (fun cdv A outer s H vs Q E hr h => ?_), bi_Switch_clear Fn, Fn.kp⟩
  · obtain ⟨B, m, c, q, cause, rfl, _⟩ := h
    rfl
  · obtain ⟨B, m, c, q, cause, rfl, hj, W, hc, k⟩ := h
    have W0 := W
    obtain ⟨L, W2⟩ := W0
    refine ⟨_, PSs.nox (pss_cons (ps_if (PW.pt (pw_and (pt_cmpR op_eq (pv 2) (pe_fld (pv 1) rfl) (nomark _)) (pw_and1 (pt_cmpR op_eq (pe_fld (pv 1) rfl) pe_str (nomark _)))))
      (pss_one (ps_ret (pe_lst (pa_cons (pe_tup (pa_cons pe_str (pa_cons (pv 2) pa_nil))) pa_nil))))
      pss_nil)
    (pss_one (ps_ret (pe_call G_refuse (hr.mono (by decide)) rfl (mg_refuse T) k_refuse b_refuse .nil pass0 (pa_cons (pv 2) (pa_cons (pv 3) pa_nil)))))), ?_⟩
    have call : (¬ (c.cd = some q ∧ c.st = .looking)) → spRefuse K F [natV q, cause] H Q E := fun ne => by
      refine ⟨B, m, q, cause, rfl, hj, W, fun B' H' l s1 W1 hA => k B' H' l s1 W1 ?_⟩
      unfold clr
      rw [if_neg ne]
      exact hA
    refine ⟨_, rfl, _, rfl, c.ad, _, _, _, _, rfl, W2.atCall hc, cl_Call T, na_Call_called T, gCall_called, scal_opt, _, rfl, ?_⟩
    refine tC (fun e1 => ?_) fun e1 => ?_
    · refine ⟨_, rfl, c.ad, _, _, _, _, rfl, W2.atCall hc, cl_Call T, na_Call_stage T, gCall_stage, rfl, _, rfl, ?_⟩
      refine tC (fun e2 => ?_) fun e2 => ?_
      · refine ⟨_, rfl, Wk.bl, fun a na => ?_⟩
        obtain ⟨B1, s1, W1, h1⟩ := W.imm na (.tup [.str "unpage", natV q])
        refine ⟨Wk.bl, fun l nl => ?_⟩
        obtain ⟨B2, s2, W2', h2⟩ := W1.imm nl (.lst [.ref a])
        refine k _ _ _ (s1.trans s2) W2' ?_
        unfold clr
        rw [if_pos ⟨opt_nat.mp e1, sg_inj (b := .looking) (str_inj e2)⟩]
        exact ⟨[a], h2, .cons (s2 _ _ h1) .nil⟩
      · exact ⟨_, rfl, _, rfl, call fun z => e2 (by rw [z.2]; rfl)⟩
    · exact ⟨_, rfl, _, rfl, call fun z => e1 (opt_nat.mpr z.1)⟩
/-- the rows without the caller's -/
theorem filt_map {cs : List Cl} {c : Cl} : ∀ i, i ≤ cs.length → ((cs.take i).filter fun e => decide (e.cr ≠ c.cr)).length ≤ i := fun i hi => by
  refine Nat.le_trans (List.length_filter_le _ _) ?_
  rw [List.length_take]
  omega
def spDrop (K : PySem.W.Frag) (F : Fx) : Sp := fun vs H Q _ => ∃ (B : Hp) (m : M) (c : Cl) (t : Int) (cause : V), vs = [.ref F.sw, .ref c.ad, .int t, cause] ∧ Wd K F B m H ∧ c ∈ m.cs ∧ m.cs.length ≤ 1000 ∧ (∀ k, c.line = some k → m.bk[k]? = some true) ∧
  ∀ B' H', Same B B' → Wd K F B' (dropC m c) H' → (∃ dx, B' c.ad = some (.ins (ga K "Call") dx (clF c))) → Q .non H'
theorem ok_Switch_drop (T : Txt K mg) : Has P w K mg base CX0 2 (ma K (ga K "Switch") "drop") ["self", "call", "tick", "cause"] (spDrop K F) := by
  obtain ⟨fd, Fn⟩ := fd_Switch_drop T
  obtain ⟨_, G_Book_end, b_Book_end, k_Book_end⟩ := ok_Book_end (P := P) (w := w) (base := base) (F := F) T
  refine ⟨fd, Fn.ok sc_Switch_drop (fun vs H Q E h => ?_) (fun cdv A outer s H vs Q E hr h => ?_), bi_Switch_drop Fn, Fn.kp⟩
  · obtain ⟨B, m, c, t, cause, rfl, _⟩ := h
    rfl
  · obtain ⟨B, m, c, t, cause, rfl, ⟨L, W⟩, hc, hl, hb, k⟩ := h
    refine ⟨_, PSs.nox (pss_cons (ps_fld (pv 0) (pe_lc (own := [("other", 4)]) (g := gName 4) (tt := (tTest (tOp rNe (tFld K (tVar 4) "caller") (tFld K (tVar 1) "caller")))) (te := (tVar 4)) rfl sc_Switch_drop.nd (pi_list (pe_fld (pv 0) rfl)) (blkOk_by (own := [("other", 4)]) (N := n_Switch_drop) (sc := defScope s_Switch_drop) (by decide +kernel)) (fun _ _ _ _ _ => pg_name (i := 4) sc_Switch_drop.nd rfl (Or.inl rfl)) (fun _ _ _ _ _ => (pts_one (pt_cmpR op_ne (pe_fld (pv 4) rfl) (pe_fld (pv 1) rfl) (nomark _)))) (fun _ _ _ _ _ => (pv 4))) rfl)
    (pss_one (ps_if (pt_cmpR op_notN (pe_fld (pv 1) rfl) pe_non (nomark _))
      (pss_one (ps_expr (pe_meth (pe_fld (pv 0) rfl) (cl_Book T) (me_Book_end T) G_Book_end (hr.mono (by decide)) b_Book_end .nil pass0 (pa_cons (pe_fld (pv 1) rfl) (pa_cons (pv 2) (pa_cons (pv 3) pa_nil))))))
      pss_nil))), ?_⟩
    refine ⟨_, rfl, F.sw, _, _, _, _, rfl, W.atSw, cl_Switch T, na_Switch_rows T, gSwitch_rows, L.ad .rows, rfl, ⟨_, SqL.of W.atRows⟩, fun D nD => ?_⟩
    have s0 : Same H (upd H D (.lst [])) := same_upd nD
    refine lc_list (K := K) (a := L.ad .rows) (xs := m.cs.map fun c => .ref c.ad) (fun i H' => Same H H' ∧ H' D = some (.lst (((m.cs.take i).filter fun e => decide (e.cr ≠ c.cr)).map fun e => V.ref e.ad))) ⟨s0, upd_same⟩ (fun i H' _ ⟨s, _⟩ => SqL.of (s _ _ W.atRows)) ?_ ?_
    · rintro i x H1 hi ⟨s1, h1⟩
      obtain ⟨e, he, rfl⟩ := cl_at hi
      have hm := List.mem_of_getElem? he
      have hi2 : i < m.cs.length := (List.getElem?_eq_some_iff.mp he).1
      refine ⟨rfl, ?_⟩
      refine ⟨_, rfl, e.ad, _, _, _, _, rfl, s1 _ _ (W.atCall hm), cl_Call T, na_Call_caller T, gCall_caller, _, rfl, c.ad, _, _, _, _, rfl, s1 _ _ (W.atCall hc), cl_Call T, na_Call_caller T, gCall_caller, rfl, _, rfl, ?_⟩
      refine nC (fun q => ?_) fun q => ?_
      · refine ⟨_, rfl, _, h1, ?_, ?_, ?_⟩
        · rw [List.length_map]
          have := filt_map (c := c) i (Nat.le_of_lt hi2)
          exact small1 (N := 1000) (by omega) Wk.bl
        · intro b o eb
          rw [upd_ne (ne_of_none eb nD)]
          exact s1 _ _ eb
        · rw [upd_same, take_at he, List.filter_append, List.map_append]
          have hne : e.cr ≠ c.cr := fun z => q (by rw [z])
          have : [e].filter (fun e => decide (e.cr ≠ c.cr)) = [e] := by simp [hne]
          rw [this]
          rfl
      · refine ⟨s1, ?_⟩
        rw [h1, take_at he, List.filter_append]
        have hne : e.cr = c.cr := natV_inj q
        have : [e].filter (fun e => decide (e.cr ≠ c.cr)) = [] := by simp [hne]
        rw [this, List.append_nil]
    · rintro H1 ⟨s1, h1⟩
      have e : m.cs.take (m.cs.map fun c => V.ref c.ad).length = m.cs := by
        rw [List.length_map]
        exact List.take_length
      rw [e] at h1
      have W1 := W.newRows s1 nD h1 (List.filter_sublist ..)
      refine ⟨_, rfl, F.sw, _, _, _, rfl, s1 _ _ W.atSw, cl_Switch T, na_Switch_rows T, Wk.bl, ?_⟩
      have eH : ∀ (H2 : Hp), upd H1 F.sw (.ins (ga K "Switch") (L.dx .sw) (putF "rows" (.ref D) (FSwitch (.ref F.home) (.ref F.bk) (.ref (L.ad .rows))))) = upd H1 F.sw (.ins (ga K "Switch") (L.dx .sw) (FSwitch (.ref F.home) (.ref F.bk) (.ref D))) := fun _ => by
        rw [pSwitch_rows]
      rw [eH H]
      -- the call's object is no longer the network's
      have hcH := s1 _ _ (W.atCall hc)
      have nsw : c.ad ≠ F.sw := fun z => by
        have a1 := W.atCall hc
        rw [z, W.atSw] at a1
        have a2 := Option.some.inj a1
        injection a2 with _ _ a3
        exact clF_sw a3
      have hcH2 := (upd_ne (o := .ins (ga K "Switch") (L.dx .sw) (FSwitch (.ref F.home) (.ref F.bk) (.ref D))) nsw).trans hcH
      have nD2 : D ≠ c.ad := fun z => by
        have a1 := W.atCall hc
        rw [← z, nD] at a1
        cases a1
      have fr : Fr K F B (L.mv .rows D) { m with cs := m.cs.filter fun e => decide (e.cr ≠ c.cr) } c.ad := by
        have e1 := obj_call_of (K := K) (F := F) (L := L) W.ads hc
        have o1 := W.out _ _ e1
        rw [W.fix.call] at o1
        refine ⟨o1, fun r o er z => ?_⟩
        have at_ := W1.objs r o er
        cases r with
        | rows =>
          rw [mv_self] at z
          exact nD2 z
        | call a =>
          have z2 : a = c.ad := by
            rw [mv_ne (by intro q; cases q), W.fix.call] at z
            exact z
          rw [obj_call] at er
          cases ef : (m.cs.filter fun e => decide (e.cr ≠ c.cr)).find? fun e => decide (e.ad = a) with
          | none =>
            dsimp only at er
            rw [ef] at er
            cases er
          | some x =>
            have h3 := List.mem_of_find?_eq_some ef
            have h4 := List.find?_some ef
            have h5 : x.ad = c.ad := (of_decide_eq_true h4).trans z2
            have h6 := List.mem_filter.mp h3
            have h7 := W.ads.uniq h6.1 hc h5
            rw [h7] at h6
            exact absurd rfl (of_decide_eq_true h6.2)
        | ph i =>
          rw [z, hcH2] at at_
          rw [obj_ph] at er
          split at er
          · rw [← Option.some.inj at_] at er
            have a2 := Option.some.inj er
            injection a2 with _ _ a3
            exact clF_ph a3
          · cases er
        | sw =>
          rw [z, hcH2] at at_
          rw [← Option.some.inj at_] at er
          have a2 := Option.some.inj er
          injection a2 with _ _ a3
          exact clF_sw a3
        | bk =>
          rw [z, hcH2] at at_
          rw [← Option.some.inj at_] at er
          have a2 := Option.some.inj er
          injection a2 with _ _ a3
          exact clF_bk a3
        | upq i =>
          rw [z, hcH2] at at_
          rw [obj_upq, ← Option.some.inj at_] at er
          split at er <;> cases er
        | dnq i =>
          rw [z, hcH2] at at_
          rw [obj_dnq, ← Option.some.inj at_] at er
          split at er <;> cases er
        | sd i =>
          rw [z, hcH2] at at_
          rw [obj_sd, ← Option.some.inj at_] at er
          split at er <;> cases er
        | hd i =>
          rw [z, hcH2] at at_
          rw [obj_hd, ← Option.some.inj at_] at er
          split at er <;> cases er
        | _ =>
          rw [z, hcH2] at at_
          rw [← Option.some.inj at_] at er
          cases er
      obtain ⟨W3, s3⟩ := freeze W1 hcH2 fr
      refine ⟨_, rfl, c.ad, _, _, _, _, rfl, hcH2, cl_Call T, na_Call_line T, gCall_line, rfl, _, rfl, ?_⟩
      cases el : c.line with
      | none =>
        refine nF rfl ?_
        have : dropC m c = { m with cs := m.cs.filter fun e => decide (e.cr ≠ c.cr) } := by
          unfold dropC
          rw [el]
          rfl
        rw [← this] at W3
        exact k _ _ s3 ⟨_, W3⟩ ⟨_, upd_same⟩
      | some n =>
        refine nT (fun q => nomatch q) ?_
        refine ⟨_, rfl, F.sw, _, _, _, _, rfl, W3.atSw, cl_Switch T, na_Switch_book T, gSwitch_book, F.bk, _, _, rfl, W3.atBk, mBook_end, _, rfl, c.ad, _, _, _, _, rfl, hcH2, cl_Call T, na_Call_line T, gCall_line, _, rfl, _, rfl, ?_⟩
        refine ⟨_, _, n, t, cause, by rw [el]; rfl, ⟨_, W3⟩, hb n el, fun B' H' s4 W4 => ?_⟩
        have : dropC m c = { m with cs := m.cs.filter fun e => decide (e.cr ≠ c.cr), bk := m.bk.set n false } := by
          unfold dropC
          rw [el]
          rfl
        rw [← this] at W4
        exact k _ _ (s3.trans s4) W4 ⟨_, s4 _ _ upd_same⟩
end
end Wk
end
section
set_option Elab.async false
set_option linter.all false
set_option maxRecDepth 100000
/-! The walk: leave, disconnect, lost. -/
namespace Wk
open PySem L2 He Mth Fl Wl Tx PyProof.Rows
/-- what a call's end leans on -/
structure Cs (m : M) : Prop where
  cd : ∀ c ∈ m.cs, ∃ g, c.cd = some g
  bk : ∀ c ∈ m.cs, ∀ k, c.line = some k → m.bk[k]? = some true
  few : m.cs.length ≤ 1000
def leaveR (m : M) (p : Nat) (cause : V) : M × List Mth.Act := match fnd m.cs p with
  | none => (m, [])
  | some c => if p = c.cr ∨ c.st ≠ .looking then (dropC m c, clr c (other c p) cause) else (m, [])
theorem other_v {c : Cl} {p g : Nat} (h : c.cd = some g) : (if p = c.cr then optV c.cd else natV c.cr) = natV (other c p) := by
  unfold other
  split
  · rw [h]
    rfl
  · rfl
section
variable {P : Program} {w : World} {K : PySem.W.Frag} {mg : Str → Option Value} {base : Heap} {F : Fx}
def spLeave (K : PySem.W.Frag) (F : Fx) : Sp := fun vs H Q _ => ∃ (B : Hp) (m : M) (p : Nat) (cause : V) (t : Int), vs = [.ref F.sw, natV p, cause, .int t] ∧ (∃ j : Int, cause = .int j) ∧ Wd K F B m H ∧ Cs m ∧ ∀ B' H' l, Same B B' → Wd K F B' (leaveR m p cause).1 H' → ActsAt B' l (leaveR m p cause).2 → Q (.ref l) H'
theorem ok_Switch_leave (T : Txt K mg) : Has P w K mg base CX0 3 (ma K (ga K "Switch") "leave") ["self", "person", "cause", "tick"] (spLeave K F) := by
  obtain ⟨fd, Fn⟩ := fd_Switch_leave T
  obtain ⟨_, G_Switch_is_leg, b_Switch_is_leg, k_Switch_is_leg⟩ := ok_Switch_is_leg (P := P) (w := w) (base := base) (F := F) T
  obtain ⟨_, G_Switch_find, b_Switch_find, k_Switch_find⟩ := ok_Switch_find (P := P) (w := w) (base := base) (F := F) T
  obtain ⟨_, G_Switch_clear, b_Switch_clear, k_Switch_clear⟩ := ok_Switch_clear (P := P) (w := w) (base := base) (F := F) T
  obtain ⟨_, G_Call_other, b_Call_other, k_Call_other⟩ := ok_Call_other (P := P) (w := w) (base := base) (F := F) T
  obtain ⟨_, G_Switch_drop, b_Switch_drop, k_Switch_drop⟩ := ok_Switch_drop (P := P) (w := w) (base := base) (F := F) T
  refine ⟨fd, Fn.ok sc_Switch_leave (fun vs H Q E h => ?_) (fun cdv A outer s H vs Q E hr h => ?_), bi_Switch_leave Fn, Fn.kp⟩
  · obtain ⟨B, m, p, cause, t, rfl, _⟩ := h
    rfl
  · obtain ⟨B, m, p, cause, t, rfl, hj, W, C, k⟩ := h
    have W0 := W
    obtain ⟨L, W2⟩ := W0
    refine ⟨_, PSs.nox (pss_cons (ps_if (pt_not (pt_val (pe_meth (pv 0) (cl_Switch T) (me_Switch_is_leg T) G_Switch_is_leg (hr.mono (by decide)) b_Switch_is_leg .nil pass0 (pa_cons (pv 1) pa_nil))))
      (pss_one (ps_ret (pe_lst pa_nil)))
      pss_nil)
    (pss_cons (ps_set (i := 4) sc_Switch_leave.nd rfl (Or.inl rfl) (pe_meth (pv 0) (cl_Switch T) (me_Switch_find T) G_Switch_find (hr.mono (by decide)) b_Switch_find .nil pass0 (pa_cons (pv 1) pa_nil)))
    (pss_cons (ps_set (i := 5) sc_Switch_leave.nd rfl (Or.inl rfl) (pe_meth (pv 0) (cl_Switch T) (me_Switch_clear T) G_Switch_clear (hr.mono (by decide)) b_Switch_clear .nil pass0 (pa_cons (pv 4) (pa_cons (pe_meth (pv 4) (cl_Call T) (me_Call_other T) G_Call_other (hr.mono (by decide)) b_Call_other .nil pass0 (pa_cons (pv 1) pa_nil)) (pa_cons (pv 2) pa_nil)))))
    (pss_cons (ps_expr (pe_meth (pv 0) (cl_Switch T) (me_Switch_drop T) G_Switch_drop (hr.mono (by decide)) b_Switch_drop .nil pass0 (pa_cons (pv 4) (pa_cons (pv 3) (pa_cons (pv 2) pa_nil)))))
    (pss_one (ps_ret (pv 5))))))), ?_⟩
    refine ⟨_, rfl, F.sw, _, _, rfl, W2.atSw, mSwitch_is_leg, _, rfl, B, m, p, rfl, W, _, rfl, ?_⟩
    have no : leaveR m p cause = (m, []) → ∀ l, H l = none → Q (.ref l) (upd H l (.lst [])) := fun e l nl => by
      obtain ⟨B1, s1, W1, h1⟩ := W.imm nl (.lst [])
      rw [e] at k
      exact k _ _ _ s1 W1 (acts_nil h1)
    cases ef : fnd m.cs p with
    | none =>
      have e1 : legB m.cs p = false := by
        unfold legB
        rw [ef]
      rw [e1]
      exact ⟨Wk.bl, no (by unfold leaveR; rw [ef])⟩
    | some c =>
      obtain ⟨hc, hp⟩ := fnd_some ef
      by_cases hl : p = c.cr ∨ c.st ≠ .looking
      · have e1 : legB m.cs p = true := by
          unfold legB
          rw [ef]
          rcases hl with z | z
          · simp [z]
          · simp [z]
        rw [e1]
        have er : leaveR m p cause = (dropC m c, clr c (other c p) cause) := by
          unfold leaveR
          rw [ef]
          exact if_pos hl
        rw [er] at k
        obtain ⟨g, hg⟩ := C.cd c hc
        refine ⟨_, rfl, F.sw, _, _, rfl, W2.atSw, mSwitch_find, _, rfl, B, m, p, rfl, W, ?_⟩
        rw [ef]
        refine ⟨_, rfl, F.sw, _, _, rfl, W2.atSw, mSwitch_clear, _, rfl, _, rfl, c.ad, _, _, rfl, W2.atCall hc, mCall_other, _, rfl, B, m, c, p, rfl, W, hc, ?_⟩
        rw [other_v hg]
        refine ⟨_, rfl, B, m, c, other c p, cause, rfl, hj, W, hc, fun B1 H1 l s1 W1 hA => ?_⟩
        have W1' := W1
        obtain ⟨L1, W3⟩ := W1'
        refine ⟨_, rfl, F.sw, _, _, rfl, W3.atSw, mSwitch_drop, _, rfl, _, rfl, _, rfl, B1, m, c, t, cause, rfl, W1, hc, C.few, C.bk c hc, fun B2 H2 s2 W4 _ => ?_⟩
        exact ⟨_, rfl, k _ _ _ (s1.trans s2) W4 (hA.mono s2)⟩
      · have e1 : legB m.cs p = false := by
          unfold legB
          rw [ef]
          rw [not_or] at hl
          have z2 : c.st = .looking := Classical.byContradiction fun q => hl.2 q
          simp [hl.1, z2]
        rw [e1]
        exact ⟨Wk.bl, no (by unfold leaveR; rw [ef]; exact if_neg hl)⟩
def spDisc (K : PySem.W.Frag) (F : Fx) : Sp := fun vs H Q _ => ∃ (B : Hp) (m : M) (p : Nat) (cause : V) (t : Int), vs = [.ref F.sw, natV p, cause, .int t] ∧ (∃ j : Int, cause = .int j) ∧ Wd K F B m H ∧ Cs m ∧ ∀ B' H' l, Same B B' → Wd K F B' (leaveR m p cause).1 H' → ActsAt B' l (.release p :: (leaveR m p cause).2) → Q (.ref l) H'
theorem leave_len (m : M) (p : Nat) (cause : V) : (leaveR m p cause).2.length ≤ 2 := by
  unfold leaveR
  split
  · exact Nat.zero_le _
  · split
    · unfold clr
      split <;> exact Wk.bl
    · exact Nat.zero_le _
theorem ok_Switch_disconnect (T : Txt K mg) : Has P w K mg base CX0 4 (ma K (ga K "Switch") "disconnect") ["self", "person", "cause", "tick"] (spDisc K F) := by
  obtain ⟨fd, Fn⟩ := fd_Switch_disconnect T
  obtain ⟨_, G_Switch_leave, b_Switch_leave, k_Switch_leave⟩ := ok_Switch_leave (P := P) (w := w) (base := base) (F := F) T
  refine ⟨fd, Fn.ok sc_Switch_disconnect (fun vs H Q E h => ?_) (fun cdv A outer s H vs Q E hr h => ?_), bi_Switch_disconnect Fn, Fn.kp⟩
  · obtain ⟨B, m, p, cause, t, rfl, _⟩ := h
    rfl
  · obtain ⟨B, m, p, cause, t, rfl, hj, W, C, k⟩ := h
    refine ⟨_, PSs.nox (pss_one (ps_ret (pe_op op_cat (pe_lst (pa_cons (pe_tup (pa_cons pe_str (pa_cons (pv 1) pa_nil))) pa_nil)) (pe_meth (pv 0) (cl_Switch T) (me_Switch_leave T) G_Switch_leave (hr.mono (by decide)) b_Switch_leave .nil pass0 (pa_cons (pv 1) (pa_cons (pv 2) (pa_cons (pv 3) pa_nil))))))), ?_⟩
    refine ⟨_, rfl, Wk.bl, fun a na => ?_⟩
    obtain ⟨B1, s1, W1, h1⟩ := W.imm na (.tup [.str "release", natV p])
    refine ⟨Wk.bl, fun l nl => ?_⟩
    obtain ⟨B2, s2, W2, h2⟩ := W1.imm nl (.lst [.ref a])
    have W2' := W2
    obtain ⟨L, W3⟩ := W2'
    refine ⟨_, rfl, F.sw, _, _, rfl, W3.atSw, mSwitch_leave, _, rfl, _, rfl, _, rfl, B2, m, p, cause, t, rfl, hj, W2, C, fun B3 H3 l2 s3 W4 hA => ?_⟩
    have W4' := W4
    obtain ⟨L4, W5⟩ := W4'
    obtain ⟨as, ha, hP⟩ := hA
    have hl := s3 _ _ h2
    have len := all2_len hP
    have lv := leave_len m p cause
    refine ⟨l, l2, _, _, rfl, rfl, W5.same _ _ hl, W5.same _ _ ha, ?_, fun l3 nl3 => ?_⟩
    · rw [List.length_map]
      exact small (N := 10) (by show 1 + as.length ≤ 10; omega)
    · obtain ⟨B4, s4, W6, h4⟩ := W4.imm nl3 (.lst ([V.ref a] ++ as.map V.ref))
      exact k _ _ _ (((s1.trans s2).trans s3).trans s4) W6 ⟨a :: as, h4, .cons (s4 _ _ (s3 _ _ (s2 _ _ h1))) (all2_mono (fun _ _ q => q.mono s4) hP)⟩
def spLost (K : PySem.W.Frag) (F : Fx) : Sp := fun vs H Q _ => ∃ (B : Hp) (m : M) (p : Nat) (t : Int), vs = [.ref F.sw, natV p, .int t] ∧ Wd K F B m H ∧ Cs m ∧ ∀ B' H' l, Same B B' → Wd K F B' (leaveR m p (.int 27)).1 H' → ActsAt B' l (leaveR m p (.int 27)).2 → Q (.ref l) H'
theorem ok_Switch_lost (T : Txt K mg) : Has P w K mg base CX0 4 (ma K (ga K "Switch") "lost") ["self", "person", "tick"] (spLost K F) := by
  obtain ⟨fd, Fn⟩ := fd_Switch_lost T
  obtain ⟨_, G_Switch_leave, b_Switch_leave, k_Switch_leave⟩ := ok_Switch_leave (P := P) (w := w) (base := base) (F := F) T
  refine ⟨fd, Fn.ok sc_Switch_lost (fun vs H Q E h => ?_) (fun cdv A outer s H vs Q E hr h => ?_), bi_Switch_lost Fn, Fn.kp⟩
  · obtain ⟨B, m, p, t, rfl, _⟩ := h
    rfl
  · obtain ⟨B, m, p, t, rfl, W, C, k⟩ := h
    have W0 := W
    obtain ⟨L, W2⟩ := W0
    refine ⟨_, PSs.nox (pss_one (ps_ret (pe_meth (pv 0) (cl_Switch T) (me_Switch_leave T) G_Switch_leave (hr.mono (by decide)) b_Switch_leave .nil pass0 (pa_cons (pv 1) (pa_cons pe_int (pa_cons (pv 2) pa_nil)))))), ?_⟩
    exact ⟨_, rfl, F.sw, _, _, rfl, W2.atSw, mSwitch_leave, _, rfl, _, rfl, B, m, p, .int 27, t, rfl, ⟨27, rfl⟩, W, C, k⟩
end
end Wk
end
section
set_option Elab.async false
set_option linter.all false
set_option maxRecDepth 100000
/-! The walk: answered, alerting, connect, connected, word. -/
namespace Wk
open PySem L2 He Mth Fl Wl Tx PyProof.Rows
theorem cin_some {cs : List Cl} {p : Nat} {ss : List Sg} {c : Cl} (h : cin cs p ss = some c) : c ∈ cs ∧ c.cd = some p ∧ c.st ∈ ss := by
  unfold cin at h
  split at h
  · cases h
  · rename_i d ed
    split at h
    · rename_i z
      cases h
      exact ⟨(fnd_some ed).1, z⟩
    · cases h
theorem setC_mem {cs : List Cl} {c c' : Cl} (hc : c ∈ cs) (e : c'.ad = c.ad) : c' ∈ setC cs c' := List.mem_map.mpr ⟨c, hc, if_pos e.symm⟩
theorem setC_setC {cs : List Cl} {a b : Cl} (e : a.ad = b.ad) : setC (setC cs a) b = setC cs b := by
  unfold setC
  rw [List.map_map]
  refine List.map_congr_left fun x _ => ?_
  show (if (if x.ad = a.ad then a else x).ad = b.ad then b else if x.ad = a.ad then a else x) = if x.ad = b.ad then b else x
  by_cases z : x.ad = a.ad
  · rw [if_pos z, if_pos e, if_pos (z.trans e)]
  · rw [if_neg z]
section
variable {P : Program} {w : World} {K : PySem.W.Frag} {mg : Str → Option Value} {base : Heap} {F : Fx}
theorem nil_ret {B H : Hp} {m : M} {Q : VK} (W : Wd K F B m H) (k : ∀ B' H' l, Same B B' → Wd K F B' m H' → ActsAt B' l [] → Q (.ref l) H') : ∀ l, H l = none → Q (.ref l) (upd H l (.lst [])) := fun l nl => by
  obtain ⟨B1, s1, W1, h1⟩ := W.imm nl (.lst [])
  exact k _ _ _ s1 W1 (acts_nil h1)
def answR (m : M) (p : Nat) (t : Int) (z : Str) : M × List Mth.Act := match cin m.cs p [.looking] with
  | none => (m, [])
  | some c => ({ m with cs := setC m.cs { c with st := .offered, since := t } }, [.tell p (.setup (.str z))])
def spAnswered (K : PySem.W.Frag) (F : Fx) : Sp := fun vs H Q _ => ∃ (B : Hp) (m : M) (p : Nat) (t : Int), vs = [.ref F.sw, natV p, .int t] ∧ Wd K F B m H ∧ (∀ c ∈ m.cs, c.cr < F.n) ∧ ∀ B' H' l z, Same B B' → Wd K F B' (answR m p t z).1 H' → ActsAt B' l (answR m p t z).2 → Q (.ref l) H'
theorem ok_Switch_answered (T : Txt K mg) : Has P w K mg base CX0 3 (ma K (ga K "Switch") "answered") ["self", "person", "tick"] (spAnswered K F) := by
  obtain ⟨fd, Fn⟩ := fd_Switch_answered T
  obtain ⟨_, G_Switch_called_in, b_Switch_called_in, k_Switch_called_in⟩ := ok_Switch_called_in (P := P) (w := w) (base := base) (F := F) T
  obtain ⟨_, G_Home_number, b_Home_number, k_Home_number⟩ := ok_Home_number (P := P) (w := w) (base := base) T
  refine ⟨fd, Fn.ok sc_Switch_answered (fun vs H Q E h => ?_) (fun cdv A outer s H vs Q E hr h => ?_), bi_Switch_answered Fn, Fn.kp⟩
  · obtain ⟨B, m, p, t, rfl, _⟩ := h
    rfl
  · obtain ⟨B, m, p, t, rfl, W, hlt, k⟩ := h
    refine ⟨_, PSs.nox (pss_cons (ps_set (i := 3) sc_Switch_answered.nd rfl (Or.inl rfl) (pe_meth (pv 0) (cl_Switch T) (me_Switch_called_in T) G_Switch_called_in (hr.mono (by decide)) b_Switch_called_in .nil pass0 (pa_cons (pv 1) (pa_cons (pe_tup (pa_cons pe_str pa_nil)) pa_nil))))
    (pss_cons (ps_if (pt_cmpR op_isN (pv 3) pe_non (nomark _))
      (pss_one (ps_ret (pe_lst pa_nil)))
      pss_nil)
    (pss_cons (ps_fld (pv 3) pe_str rfl)
    (pss_cons (ps_fld (pv 3) (pv 2) rfl)
    (pss_one (ps_ret (pe_lst (pa_cons (pe_tup (pa_cons pe_str (pa_cons (pv 1) (pa_cons (pe_tup (pa_cons pe_str (pa_cons (pe_meth (pe_fld (pv 0) rfl) (cl_Home T) (me_Home_number T) G_Home_number (hr.mono (by decide)) b_Home_number .nil pass0 (pa_cons (pe_fld (pv 3) rfl) pa_nil)) pa_nil))) pa_nil)))) pa_nil)))))))), ?_⟩
    have W0 := W
    obtain ⟨L, W2⟩ := W0
    refine ⟨_, rfl, F.sw, _, _, rfl, W2.atSw, mSwitch_called_in, _, rfl, Wk.bl, fun a na => ?_⟩
    obtain ⟨B1, s1, W1, h1⟩ := W.imm na (.tup [.str "looking"])
    refine ⟨B1, m, p, a, [.looking], rfl, W1, upd_same, ?_⟩
    have W1' := W1
    obtain ⟨L1, V1⟩ := W1'
    cases ec : cin m.cs p [.looking] with
    | none =>
      have er : ∀ z, answR m p t z = (m, []) := fun z => by
        unfold answR
        rw [ec]
      refine ⟨_, rfl, rfl, _, rfl, tT rfl ⟨Wk.bl, nil_ret W1 fun B' H' l s2 W2 hA => k B' H' l "" (s1.trans s2) ?_ ?_⟩⟩
      · rw [er]
        exact W2
      · rw [er]
        exact hA
    | some c =>
      obtain ⟨hc, hp, hs⟩ := cin_some ec
      have er : ∀ z, answR m p t z = ({ m with cs := setC m.cs { c with st := .offered, since := t } }, [.tell p (.setup (.str z))]) := fun z => by
        unfold answR
        rw [ec]
      refine ⟨_, rfl, rfl, _, rfl, tF (fun q => nomatch q) ?_⟩
      refine ⟨_, rfl, c.ad, _, _, _, rfl, V1.atCall hc, cl_Call T, na_Call_stage T, Wk.bl, ?_⟩
      rw [show putF "stage" (V.str "offered") (clF c) = clF { c with st := .offered } from pCall_stage]
      have V2 := V1.setCall (c' := { c with st := .offered }) hc rfl
      have hc2 : ({ c with st := .offered } : Cl) ∈ setC m.cs { c with st := .offered } := setC_mem hc rfl
      refine ⟨_, rfl, _, rfl, c.ad, _, _, _, rfl, WL.atCall (c := { c with st := .offered }) V2 hc2, cl_Call T, na_Call_since T, Wk.bl, ?_⟩
      rw [show putF "since" (V.int t) (clF { c with st := .offered }) = clF { c with st := .offered, since := t } from pCall_since]
      have V3 := V2.setCall (c := { c with st := .offered }) (c' := { c with st := .offered, since := t }) hc2 rfl
      have e3 : setC (setC m.cs { c with st := .offered }) { c with st := .offered, since := t } = setC m.cs { c with st := .offered, since := t } := setC_setC rfl
      dsimp only at V3
      rw [e3] at V3
      have hc3 : ({ c with st := .offered, since := t } : Cl) ∈ setC m.cs { c with st := .offered, since := t } := setC_mem hc rfl
      obtain ⟨ps, hR, hl, hP⟩ := homeRows V3.atHome
      obtain ⟨q, hq, hq2⟩ := map_at2 hl (hlt c hc)
      obtain ⟨px, d1, z1, ar, nd, kvs, e1, e2, _, _⟩ := hP q hq2
      have hR2 := hR
      obtain ⟨dx, rl, g1, g2⟩ := hR2
      refine ⟨_, rfl, _, rfl, F.sw, _, _, _, _, rfl, V3.atSw, cl_Switch T, na_Switch_home T, gSwitch_home, F.home, dx, _, rfl, g1, mHome_number, _, rfl, c.ad, _, _, _, _, rfl, WL.atCall (c := { c with st := .offered, since := t }) V3 hc3, cl_Call T, na_Call_caller T, gCall_caller, ?_⟩
      refine ⟨F.home, c.cr, ps, q, d1, z1, ar, nd, rfl, hR, hq, ⟨px, e1⟩, ?_⟩
      have W3 : Wd K F B1 _ _ := ⟨_, V3⟩
      refine ⟨Wk.bl, fun b nb => ?_⟩
      obtain ⟨B4, s4, W4, h4⟩ := W3.imm nb (.tup [.str "setup", .str z1])
      refine ⟨Wk.bl, fun x nx => ?_⟩
      obtain ⟨B5, s5, W5, h5⟩ := W4.imm nx (.tup [.str "tell", natV p, .ref b])
      refine ⟨Wk.bl, fun l nl => ?_⟩
      obtain ⟨B6, s6, W6, h6⟩ := W5.imm nl (.lst [.ref x])
      refine k _ _ _ z1 (((s1.trans s4).trans s5).trans s6) ?_ ?_
      · rw [er]
        exact W6
      · rw [er]
        exact ⟨[x], h6, .cons ⟨b, s6 _ _ h5, s6 _ _ (s5 _ _ h4), .inr ⟨z1, rfl⟩⟩ .nil⟩
def alertR (m : M) (p : Nat) : M × List Mth.Act := match cin m.cs p [.offered] with
  | none => (m, [])
  | some c => ({ m with cs := setC m.cs { c with st := .ringing } }, [.tell c.cr .alerting])
def spAlert (K : PySem.W.Frag) (F : Fx) : Sp := fun vs H Q _ => ∃ (B : Hp) (m : M) (p : Nat), vs = [.ref F.sw, natV p] ∧ Wd K F B m H ∧ ∀ B' H' l, Same B B' → Wd K F B' (alertR m p).1 H' → ActsAt B' l (alertR m p).2 → Q (.ref l) H'
theorem ok_Switch_alerting (T : Txt K mg) : Has P w K mg base CX0 3 (ma K (ga K "Switch") "alerting") ["self", "person"] (spAlert K F) := by
  obtain ⟨fd, Fn⟩ := fd_Switch_alerting T
  obtain ⟨_, G_Switch_called_in, b_Switch_called_in, k_Switch_called_in⟩ := ok_Switch_called_in (P := P) (w := w) (base := base) (F := F) T
  refine ⟨fd, Fn.ok sc_Switch_alerting (fun vs H Q E h => ?_) (fun cdv A outer s H vs Q E hr h => ?_), bi_Switch_alerting Fn, Fn.kp⟩
  · obtain ⟨B, m, p, rfl, _⟩ := h
    rfl
  · obtain ⟨B, m, p, rfl, W, k⟩ := h
    refine ⟨_, PSs.nox (pss_cons (ps_set (i := 2) sc_Switch_alerting.nd rfl (Or.inl rfl) (pe_meth (pv 0) (cl_Switch T) (me_Switch_called_in T) G_Switch_called_in (hr.mono (by decide)) b_Switch_called_in .nil pass0 (pa_cons (pv 1) (pa_cons (pe_tup (pa_cons pe_str pa_nil)) pa_nil))))
    (pss_cons (ps_if (pt_cmpR op_isN (pv 2) pe_non (nomark _))
      (pss_one (ps_ret (pe_lst pa_nil)))
      pss_nil)
    (pss_cons (ps_fld (pv 2) pe_str rfl)
    (pss_one (ps_ret (pe_lst (pa_cons (pe_tup (pa_cons pe_str (pa_cons (pe_fld (pv 2) rfl) (pa_cons (pe_tup (pa_cons pe_str pa_nil)) pa_nil)))) pa_nil))))))), ?_⟩
    have W0 := W
    obtain ⟨L, W2⟩ := W0
    refine ⟨_, rfl, F.sw, _, _, rfl, W2.atSw, mSwitch_called_in, _, rfl, Wk.bl, fun a na => ?_⟩
    obtain ⟨B1, s1, W1, h1⟩ := W.imm na (.tup [.str "offered"])
    refine ⟨B1, m, p, a, [.offered], rfl, W1, upd_same, ?_⟩
    have W1' := W1
    obtain ⟨L1, V1⟩ := W1'
    unfold alertR at k
    cases ec : cin m.cs p [.offered] with
    | none =>
      rw [ec] at k
      exact ⟨_, rfl, rfl, _, rfl, tT rfl ⟨Wk.bl, nil_ret W1 fun B' H' l s2 W2 hA => k B' H' l (s1.trans s2) W2 hA⟩⟩
    | some c =>
      rw [ec] at k
      obtain ⟨hc, hp, hs⟩ := cin_some ec
      refine ⟨_, rfl, rfl, _, rfl, tF (fun q => nomatch q) ?_⟩
      refine ⟨_, rfl, c.ad, _, _, _, rfl, V1.atCall hc, cl_Call T, na_Call_stage T, Wk.bl, ?_⟩
      rw [show putF "stage" (V.str "ringing") (clF c) = clF { c with st := .ringing } from pCall_stage]
      have V2 := V1.setCall (c' := { c with st := .ringing }) hc rfl
      have hc2 : ({ c with st := .ringing } : Cl) ∈ setC m.cs { c with st := .ringing } := setC_mem hc rfl
      have W2 : Wd K F B1 _ _ := ⟨_, V2⟩
      refine ⟨_, rfl, c.ad, _, _, _, _, rfl, WL.atCall (c := { c with st := .ringing }) V2 hc2, cl_Call T, na_Call_caller T, gCall_caller, Wk.bl, fun b nb => ?_⟩
      obtain ⟨B4, s4, W4, h4⟩ := W2.imm nb (.tup [.str "alerting"])
      refine ⟨Wk.bl, fun x nx => ?_⟩
      obtain ⟨B5, s5, W5, h5⟩ := W4.imm nx (.tup [.str "tell", natV c.cr, .ref b])
      refine ⟨Wk.bl, fun l nl => ?_⟩
      obtain ⟨B6, s6, W6, h6⟩ := W5.imm nl (.lst [.ref x])
      exact k _ _ _ (((s1.trans s4).trans s5).trans s6) W6 ⟨[x], h6, .cons ⟨b, s6 _ _ h5, s6 _ _ (s5 _ _ h4), trivial⟩ .nil⟩
def connR (m : M) (p : Nat) : M × List Mth.Act := match cin m.cs p [.offered, .ringing] with
  | none => (m, [])
  | some c => ({ m with cs := setC m.cs { c with st := .answered } }, [.tell p .cdone, .tell c.cr .connect])
def spConn (K : PySem.W.Frag) (F : Fx) : Sp := fun vs H Q _ => ∃ (B : Hp) (m : M) (p : Nat), vs = [.ref F.sw, natV p] ∧ Wd K F B m H ∧ ∀ B' H' l, Same B B' → Wd K F B' (connR m p).1 H' → ActsAt B' l (connR m p).2 → Q (.ref l) H'
theorem ok_Switch_connect (T : Txt K mg) : Has P w K mg base CX0 3 (ma K (ga K "Switch") "connect") ["self", "person"] (spConn K F) := by
  obtain ⟨fd, Fn⟩ := fd_Switch_connect T
  obtain ⟨_, G_Switch_called_in, b_Switch_called_in, k_Switch_called_in⟩ := ok_Switch_called_in (P := P) (w := w) (base := base) (F := F) T
  refine ⟨fd, Fn.ok sc_Switch_connect (fun vs H Q E h => ?_) (fun cdv A outer s H vs Q E hr h => ?_), bi_Switch_connect Fn, Fn.kp⟩
  · obtain ⟨B, m, p, rfl, _⟩ := h
    rfl
  · obtain ⟨B, m, p, rfl, W, k⟩ := h
    refine ⟨_, PSs.nox (pss_cons (ps_set (i := 2) sc_Switch_connect.nd rfl (Or.inl rfl) (pe_meth (pv 0) (cl_Switch T) (me_Switch_called_in T) G_Switch_called_in (hr.mono (by decide)) b_Switch_called_in .nil pass0 (pa_cons (pv 1) (pa_cons (pe_tup (pa_cons pe_str (pa_cons pe_str pa_nil))) pa_nil))))
    (pss_cons (ps_if (pt_cmpR op_isN (pv 2) pe_non (nomark _))
      (pss_one (ps_ret (pe_lst pa_nil)))
      pss_nil)
    (pss_cons (ps_fld (pv 2) pe_str rfl)
    (pss_one (ps_ret (pe_lst (pa_cons (pe_tup (pa_cons pe_str (pa_cons (pv 1) (pa_cons (pe_tup (pa_cons pe_str pa_nil)) pa_nil)))) (pa_cons (pe_tup (pa_cons pe_str (pa_cons (pe_fld (pv 2) rfl) (pa_cons (pe_tup (pa_cons pe_str pa_nil)) pa_nil)))) pa_nil)))))))), ?_⟩
    have W0 := W
    obtain ⟨L, W2⟩ := W0
    refine ⟨_, rfl, F.sw, _, _, rfl, W2.atSw, mSwitch_called_in, _, rfl, Wk.bl, fun a na => ?_⟩
    obtain ⟨B1, s1, W1, h1⟩ := W.imm na (.tup [.str "offered", .str "ringing"])
    refine ⟨B1, m, p, a, [.offered, .ringing], rfl, W1, upd_same, ?_⟩
    have W1' := W1
    obtain ⟨L1, V1⟩ := W1'
    unfold connR at k
    cases ec : cin m.cs p [.offered, .ringing] with
    | none =>
      rw [ec] at k
      exact ⟨_, rfl, rfl, _, rfl, tT rfl ⟨Wk.bl, nil_ret W1 fun B' H' l s2 W2 hA => k B' H' l (s1.trans s2) W2 hA⟩⟩
    | some c =>
      rw [ec] at k
      obtain ⟨hc, hp, hs⟩ := cin_some ec
      refine ⟨_, rfl, rfl, _, rfl, tF (fun q => nomatch q) ?_⟩
      refine ⟨_, rfl, c.ad, _, _, _, rfl, V1.atCall hc, cl_Call T, na_Call_stage T, Wk.bl, ?_⟩
      rw [show putF "stage" (V.str "answered") (clF c) = clF { c with st := .answered } from pCall_stage]
      have V2 := V1.setCall (c' := { c with st := .answered }) hc rfl
      have hc2 : ({ c with st := .answered } : Cl) ∈ setC m.cs { c with st := .answered } := setC_mem hc rfl
      have W2 : Wd K F B1 _ _ := ⟨_, V2⟩
      refine ⟨_, rfl, Wk.bl, fun b nb => ?_⟩
      obtain ⟨B4, s4, W4, h4⟩ := W2.imm nb (.tup [.str "connect done"])
      refine ⟨Wk.bl, fun x nx => ?_⟩
      obtain ⟨B5, s5, W5, h5⟩ := W4.imm nx (.tup [.str "tell", natV p, .ref b])
      have W5' := W5
      obtain ⟨L5, V5⟩ := W5'
      refine ⟨_, rfl, c.ad, _, _, _, _, rfl, WL.atCall (c := { c with st := .answered }) V5 hc2, cl_Call T, na_Call_caller T, gCall_caller, Wk.bl, fun b2 nb2 => ?_⟩
      obtain ⟨B6, s6, W6, h6⟩ := W5.imm nb2 (.tup [.str "connect"])
      refine ⟨Wk.bl, fun x2 nx2 => ?_⟩
      obtain ⟨B7, s7, W7, h7⟩ := W6.imm nx2 (.tup [.str "tell", natV c.cr, .ref b2])
      refine ⟨Wk.bl, fun l nl => ?_⟩
      obtain ⟨B8, s8, W8, h8⟩ := W7.imm nl (.lst [.ref x, .ref x2])
      have s68 := (s6.trans s7).trans s8
      exact k _ _ _ (((s1.trans s4).trans s5).trans s68) W8 ⟨[x, x2], h8, .cons ⟨b, s68 _ _ h5, s68 _ _ (s5 _ _ h4), trivial⟩ (.cons ⟨b2, s8 _ _ h7, s8 _ _ (s7 _ _ h6), trivial⟩ .nil)⟩
def doneR (m : M) (p : Nat) : M := match fnd m.cs p with
  | none => m
  | some c => if c.cr = p ∧ c.st = .answered then { m with cs := setC m.cs { c with st := .active, line := some m.bk.length }, bk := m.bk ++ [true] } else m
def spDone (K : PySem.W.Frag) (F : Fx) : Sp := fun vs H Q _ => ∃ (B : Hp) (m : M) (p : Nat) (t : Int), vs = [.ref F.sw, natV p, .int t] ∧ Wd K F B m H ∧ m.bk.length ≤ 1000000 ∧ ∀ B' H' l, Same B B' → Wd K F B' (doneR m p) H' → ActsAt B' l [] → Q (.ref l) H'
theorem ok_Switch_connected (T : Txt K mg) : Has P w K mg base CX0 2 (ma K (ga K "Switch") "connected") ["self", "person", "tick"] (spDone K F) := by
  obtain ⟨fd, Fn⟩ := fd_Switch_connected T
  obtain ⟨_, G_Switch_find, b_Switch_find, k_Switch_find⟩ := ok_Switch_find (P := P) (w := w) (base := base) (F := F) T
  obtain ⟨_, G_Book_begin, b_Book_begin, k_Book_begin⟩ := ok_Book_begin (P := P) (w := w) (base := base) (F := F) T
  refine ⟨fd, Fn.ok sc_Switch_connected (fun vs H Q E h => ?_) (fun cdv A outer s H vs Q E hr h => ?_), bi_Switch_connected Fn, Fn.kp⟩
  · obtain ⟨B, m, p, t, rfl, _⟩ := h
    rfl
  · obtain ⟨B, m, p, t, rfl, W, hb, k⟩ := h
    refine ⟨_, PSs.nox (pss_cons (ps_set (i := 3) sc_Switch_connected.nd rfl (Or.inl rfl) (pe_meth (pv 0) (cl_Switch T) (me_Switch_find T) G_Switch_find (hr.mono (by decide)) b_Switch_find .nil pass0 (pa_cons (pv 1) pa_nil)))
    (pss_cons (ps_if (PW.pt (pw_and (pt_cmpR op_notN (pv 3) pe_non (nomark _)) (pw_and (pt_cmpR op_eq (pe_fld (pv 3) rfl) (pv 1) (nomark _)) (pw_and1 (pt_cmpR op_eq (pe_fld (pv 3) rfl) pe_str (nomark _))))))
      (pss_cons (ps_fld (pv 3) pe_str rfl)
      (pss_one (ps_fld (pv 3) (pe_meth (pe_fld (pv 0) rfl) (cl_Book T) (me_Book_begin T) G_Book_begin (hr.mono (by decide)) b_Book_begin .nil pass0 (pa_cons (pe_fld (pv 3) rfl) (pa_cons (pe_fld (pv 3) rfl) (pa_cons (pv 2) pa_nil)))) rfl)))
      pss_nil)
    (pss_one (ps_ret (pe_lst pa_nil))))), ?_⟩
    have W0 := W
    obtain ⟨L, V1⟩ := W0
    refine ⟨_, rfl, F.sw, _, _, rfl, V1.atSw, mSwitch_find, _, rfl, B, m, p, rfl, W, ?_⟩
    unfold doneR at k
    cases ef : fnd m.cs p with
    | none =>
      rw [ef] at k
      exact ⟨_, rfl, rfl, _, rfl, nF rfl ⟨Wk.bl, nil_ret W k⟩⟩
    | some c =>
      rw [ef] at k
      dsimp only at k
      obtain ⟨hc, hp⟩ := fnd_some ef
      refine ⟨_, rfl, rfl, _, rfl, nT (fun q => nomatch q) ?_⟩
      refine ⟨_, rfl, c.ad, _, _, _, _, rfl, V1.atCall hc, cl_Call T, na_Call_caller T, gCall_caller, _, rfl, rfl, _, rfl, ?_⟩
      refine tC (fun e1 => ?_) fun e1 => ?_
      · refine ⟨_, rfl, c.ad, _, _, _, _, rfl, V1.atCall hc, cl_Call T, na_Call_stage T, gCall_stage, rfl, _, rfl, ?_⟩
        refine tC (fun e2 => ?_) fun e2 => ?_
        · rw [if_pos ⟨natV_inj e1, sg_inj (b := .answered) (str_inj e2)⟩] at k
          refine ⟨_, rfl, c.ad, _, _, _, rfl, V1.atCall hc, cl_Call T, na_Call_stage T, Wk.bl, ?_⟩
          rw [show putF "stage" (V.str "active") (clF c) = clF { c with st := .active } from pCall_stage]
          have V2 := V1.setCall (c' := { c with st := .active }) hc rfl
          have hc2 : ({ c with st := .active } : Cl) ∈ setC m.cs { c with st := .active } := setC_mem hc rfl
          refine ⟨_, rfl, F.sw, _, _, _, _, rfl, V2.atSw, cl_Switch T, na_Switch_book T, gSwitch_book, F.bk, _, _, rfl, V2.atBk, mBook_begin, _, rfl, c.ad, _, _, _, _, rfl, WL.atCall (c := { c with st := .active }) V2 hc2, cl_Call T, na_Call_caller T, gCall_caller, _, rfl, c.ad, _, _, _, _, rfl, WL.atCall (c := { c with st := .active }) V2 hc2, cl_Call T, na_Call_called T, gCall_called, _, rfl, ?_⟩
          refine ⟨B, { m with cs := setC m.cs { c with st := .active } }, _, _, _, rfl, ⟨_, V2⟩, hb, fun B3 H3 s3 W3 => ?_⟩
          obtain ⟨L3, V3⟩ := W3
          refine ⟨_, rfl, c.ad, _, _, _, rfl, WL.atCall (c := { c with st := .active }) V3 hc2, cl_Call T, na_Call_line T, Wk.bl, ?_⟩
          rw [show putF "line" (natV m.bk.length) (clF { c with st := .active }) = clF { c with st := .active, line := some m.bk.length } from pCall_line]
          have V4 := V3.setCall (c := { c with st := .active }) (c' := { c with st := .active, line := some m.bk.length }) hc2 rfl
          have e3 : setC (setC m.cs { c with st := .active }) { c with st := .active, line := some m.bk.length } = setC m.cs { c with st := .active, line := some m.bk.length } := setC_setC rfl
          dsimp only at V4
          rw [e3] at V4
          exact ⟨Wk.bl, nil_ret ⟨_, V4⟩ fun B' H' l s4 W4 hA => k B' H' l (s3.trans s4) W4 hA⟩
        · rw [if_neg fun z => e2 (by rw [z.2]; rfl)] at k
          exact ⟨Wk.bl, nil_ret W k⟩
      · rw [if_neg fun z => e1 (by rw [z.1])] at k
        exact ⟨Wk.bl, nil_ret W k⟩
def wordR (m : M) (p : Nat) (x : V) : List Mth.Act := match fnd m.cs p with
  | none => []
  | some c => if c.st.talk = true then [.tell (other c p) (.word x)] else []
theorem talk_mem (s : Sg) : s ∈ [Sg.answered, Sg.active] ↔ s.talk = true := by
  cases s <;> simp [Sg.talk]
def spWord (K : PySem.W.Frag) (F : Fx) : Sp := fun vs H Q _ => ∃ (B : Hp) (m : M) (p : Nat) (x : V), vs = [.ref F.sw, natV p, x] ∧ Wd K F B m H ∧ WordV B x ∧ (∀ c ∈ m.cs, ∃ g, c.cd = some g) ∧ ∀ B' H' l, Same B B' → Wd K F B' m H' → ActsAt B' l (wordR m p x) → Q (.ref l) H'
theorem ok_Switch_word (T : Txt K mg) : Has P w K mg base CX0 2 (ma K (ga K "Switch") "word") ["self", "person", "octets"] (spWord K F) := by
  obtain ⟨fd, Fn⟩ := fd_Switch_word T
  obtain ⟨_, G_Switch_find, b_Switch_find, k_Switch_find⟩ := ok_Switch_find (P := P) (w := w) (base := base) (F := F) T
  obtain ⟨_, G_Call_other, b_Call_other, k_Call_other⟩ := ok_Call_other (P := P) (w := w) (base := base) (F := F) T
  refine ⟨fd, Fn.ok sc_Switch_word (fun vs H Q E h => ?_) (fun cdv A outer s H vs Q E hr h => ?_), bi_Switch_word Fn, Fn.kp⟩
  · obtain ⟨B, m, p, x, rfl, _⟩ := h
    rfl
  · obtain ⟨B, m, p, x, rfl, W, hx, hcd, k⟩ := h
    refine ⟨_, PSs.nox (pss_cons (ps_set (i := 3) sc_Switch_word.nd rfl (Or.inl rfl) (pe_meth (pv 0) (cl_Switch T) (me_Switch_find T) G_Switch_find (hr.mono (by decide)) b_Switch_find .nil pass0 (pa_cons (pv 1) pa_nil)))
    (pss_cons (ps_if (PW.pt (pw_or (pt_cmpR op_isN (pv 3) pe_non (nomark _)) (pw_or1 (pt_cmpR op_notIn_seq (pe_fld (pv 3) rfl) (pe_tup (pa_cons pe_str (pa_cons pe_str pa_nil))) (by rfl)))))
      (pss_one (ps_ret (pe_lst pa_nil)))
      pss_nil)
    (pss_one (ps_ret (pe_lst (pa_cons (pe_tup (pa_cons pe_str (pa_cons (pe_meth (pv 3) (cl_Call T) (me_Call_other T) G_Call_other (hr.mono (by decide)) b_Call_other .nil pass0 (pa_cons (pv 1) pa_nil)) (pa_cons (pe_tup (pa_cons pe_str (pa_cons (pv 2) pa_nil))) pa_nil)))) pa_nil)))))), ?_⟩
    have W0 := W
    obtain ⟨L, V1⟩ := W0
    refine ⟨_, rfl, F.sw, _, _, rfl, V1.atSw, mSwitch_find, _, rfl, B, m, p, rfl, W, ?_⟩
    unfold wordR at k
    cases ef : fnd m.cs p with
    | none =>
      rw [ef] at k
      exact ⟨_, rfl, rfl, _, rfl, tT rfl ⟨Wk.bl, nil_ret W k⟩⟩
    | some c =>
      rw [ef] at k
      dsimp only at k
      obtain ⟨hc, hp⟩ := fnd_some ef
      obtain ⟨g, hg⟩ := hcd c hc
      refine ⟨_, rfl, rfl, _, rfl, tF (fun q => nomatch q) ?_⟩
      refine ⟨_, rfl, c.ad, _, _, _, _, rfl, V1.atCall hc, cl_Call T, na_Call_stage T, gCall_stage, Wk.bl, fun a na => ?_⟩
      obtain ⟨B1, s1, W1, h1⟩ := W.imm na (.tup [.str "answered", .str "active"])
      have W1' := W1
      obtain ⟨L1, V2⟩ := W1'
      refine ⟨a, _, rfl, .inr (SqT.of upd_same), rfl, rfl, _, rfl, ?_⟩
      rw [show inV (V.str (sgS c.st)) [V.str "answered", V.str "active"] = decide (c.st ∈ [Sg.answered, Sg.active]) from inV_str c.st [.answered, .active]]
      refine nC (fun q => ?_) fun q => ?_
      · rw [if_neg fun z => q ((talk_mem _).mpr z)] at k
        exact ⟨Wk.bl, nil_ret W1 fun B' H' l s2 W2 hA => k B' H' l (s1.trans s2) W2 hA⟩
      · rw [if_pos ((talk_mem _).mp q)] at k
        refine ⟨_, rfl, c.ad, _, _, rfl, V2.atCall hc, mCall_other, _, rfl, B1, m, c, p, rfl, W1, hc, ?_⟩
        rw [other_v hg]
        refine ⟨_, rfl, Wk.bl, fun b nb => ?_⟩
        obtain ⟨B4, s4, W4, h4⟩ := W1.imm nb (.tup [.str "word", x])
        refine ⟨Wk.bl, fun y ny => ?_⟩
        obtain ⟨B5, s5, W5, h5⟩ := W4.imm ny (.tup [.str "tell", natV (other c p), .ref b])
        refine ⟨Wk.bl, fun l nl => ?_⟩
        obtain ⟨B6, s6, W6, h6⟩ := W5.imm nl (.lst [.ref y])
        have st := ((s1.trans s4).trans s5).trans s6
        exact k _ _ _ st W6 ⟨[y], h6, .cons ⟨b, s6 _ _ h5, s6 _ _ (s5 _ _ h4), hx.mono st⟩ .nil⟩
end
end Wk
end
section
set_option Elab.async false
set_option linter.all false
set_option maxRecDepth 100000
/-! The walk: start, not_reached. -/
namespace Wk
open PySem L2 He Mth Fl Wl Tx PyProof.Rows
/-- o.f = .., as a target -/
def gFld (K : PySem.W.Frag) (to : TE) (f : Str) : TG := fun y σ H Q => to σ H fun x H2 => ∃ a C dx fs, x = .ref a ∧ H2 a = some (.ins C dx fs) ∧ Cls K C ∧ NoAttr K C f ∧ fs.length < 1000 ∧ Q σ (upd H2 a (.ins C dx (putF f y fs)))
theorem pg_fld {X : Cx} {o : Expr} {f : Str} {pos : Pos} {to : TE} (ho : PE X o to) : PG X (.Attribute o f pos) (gFld X.K to f) := by
  refine ⟨fun pins s σ H v u Q I r h => ?_⟩
  rw [assign_Attribute]
  refine wpAny_bind (wpAny_holding (thn (ho.run pins s σ H _ I h) fun ov s1 ⟨x, H1, I1, rx, a, C, dx, fs, ex, ea, c, n, l, q⟩ => ?_))
  subst ex
  obtain rfl : ov = Value.ref a := rx
  refine wpAny_bind (wpAny_standAt (wpAny_bind (wpAny_holding (setattr_ok I1 ea c n l r fun s2 I2 => ?_))))
  exact wpAny_release ⟨σ, _, I2, q⟩
theorem sidesV_nat : ∀ {cs : List Cl}, (∀ c ∈ cs, ∃ g, c.cd = some g) → sidesV cs = (sides cs).map natV
  | [], _ => rfl
  | c :: cs, h => by
    obtain ⟨g, hg⟩ := h c List.mem_cons_self
    have ih := sidesV_nat fun e he => h e (List.mem_cons_of_mem _ he)
    show natV c.cr :: optV c.cd :: sidesV cs = _
    rw [ih, sides_cons hg, hg]
    rfl
theorem sidesV_filter : ∀ cs : List Cl, (sidesV cs).filter (fun v => !decide (v = V.non)) = (sides cs).map natV
  | [] => rfl
  | c :: cs => by
    have ih := sidesV_filter cs
    have e : sides (c :: cs) = c.cr :: (c.cd.toList ++ sides cs) := rfl
    show (natV c.cr :: optV c.cd :: sidesV cs).filter _ = _
    rw [e, List.filter_cons_of_pos (by rfl), List.map_cons, List.map_append, ← ih]
    cases c.cd with
    | none =>
      rw [List.filter_cons_of_neg (by simp [optV])]
      rfl
    | some g =>
      rw [List.filter_cons_of_pos (by rfl)]
      rfl
/-- a call asked for: refused, or begun -/
def StartR (n : Nat) (m : M) (p : Nat) (m' : M) (acts : List Mth.Act) : Prop := (m' = m ∧ ∃ c, acts = Mth.refuse p c) ∨
  ∃ g a h, fnd m.cs p = none ∧ g < n ∧ g ≠ p ∧ g ∉ sides m.cs ∧ m' = { m with cs := m.cs ++ [newC a p g h] } ∧ acts = [.tell p .proceeding, .page g]
section
variable {P : Program} {w : World} {K : PySem.W.Frag} {mg : Str → Option Value} {base : Heap} {F : Fx}
def spStart (K : PySem.W.Frag) (F : Fx) : Sp := fun vs H Q _ => ∃ (B : Hp) (m : M) (p : Nat) (v : V) (ll : Addr) (ls : List Nat) (t : V), vs = [.ref F.sw, natV p, v, .ref ll, t] ∧ Wd K F B m H ∧ Cs m ∧ NumV v ∧ B ll = some (.lst (ls.map natV)) ∧ ls.length ≤ 1000 ∧
  ∀ B' H' l m' acts, Same B B' → StartR F.n m p m' acts → Wd K F B' m' H' → ActsAt B' l acts → Q (.ref l) H'
theorem ok_Switch_start (T : Txt K mg) : Has P w K mg base CX0 5 (ma K (ga K "Switch") "start") ["self", "person", "number", "linked", "tick"] (spStart K F) := by
  obtain ⟨fd, Fn⟩ := fd_Switch_start T
  obtain ⟨_, G_Switch_find, b_Switch_find, k_Switch_find⟩ := ok_Switch_find (P := P) (w := w) (base := base) (F := F) T
  obtain ⟨_, G_refuse, b_refuse, k_refuse⟩ := ok_refuse (P := P) (w := w) (base := base) (F := F) T
  obtain ⟨_, G_find_goal, b_find_goal, k_find_goal⟩ := ok_find_goal (P := P) (w := w) (base := base) T
  obtain ⟨_, G_Switch_sides, b_Switch_sides, k_Switch_sides⟩ := ok_Switch_sides (P := P) (w := w) (base := base) (F := F) T
  obtain ⟨_, G_Call_init, b_Call_init, k_Call_init⟩ := ok_Call_init (P := P) (w := w) (base := base) T
  refine ⟨fd, Fn.ok sc_Switch_start (fun vs H Q E h => ?_) (fun cdv A outer s H vs Q E hr h => ?_), bi_Switch_start Fn, Fn.kp⟩
  · obtain ⟨B, m, p, v, ll, ls, t, rfl, _⟩ := h
    rfl
  · obtain ⟨B, m, p, v, ll, ls, t, rfl, W, C, hv, hll, hls, k⟩ := h
    refine ⟨_, PSs.nox (pss_cons (ps_if (pt_cmpR op_notN (pe_meth (pv 0) (cl_Switch T) (me_Switch_find T) G_Switch_find (hr.mono (by decide)) b_Switch_find .nil pass0 (pa_cons (pv 1) pa_nil)) pe_non (nomark _))
      (pss_one (ps_ret (pe_call G_refuse (hr.mono (by decide)) rfl (mg_refuse T) k_refuse b_refuse .nil pass0 (pa_cons (pv 1) (pa_cons pe_int pa_nil)))))
      pss_nil)
    (pss_cons (ps_asg (pe_call G_find_goal (hr.mono (by decide)) rfl (mg_find_goal T) k_find_goal b_find_goal .nil pass0 (pa_cons (pe_fld (pv 0) rfl) (pa_cons (pv 2) (pa_cons (pv 1) (pa_cons (pe_op op_cat (pe_meth0 (pv 0) (cl_Switch T) (me_Switch_sides T) G_Switch_sides (hr.mono (by decide)) b_Switch_sides .nil pass0) (pe_callTy call_list_of (by rfl) (fr_list T) (by decide +kernel) (pa_cons (pv 3) pa_nil))) (pa_cons pe_int pa_nil)))))) (pg_tup (by rfl) (pgs_cons (pg_name (i := 5) sc_Switch_start.nd rfl (Or.inl rfl)) (pgs_cons (pg_name (i := 6) sc_Switch_start.nd rfl (Or.inl rfl)) (pgs_cons (pg_name (i := 7) sc_Switch_start.nd rfl (Or.inl rfl)) pgs_nil)))))
    (pss_cons (ps_if (pt_cmpR op_isN (pv 5) pe_non (nomark _))
      (pss_one (ps_ret (pe_call G_refuse (hr.mono (by decide)) rfl (mg_refuse T) k_refuse b_refuse .nil pass0 (pa_cons (pv 1) (pa_cons (pv 6) pa_nil)))))
      pss_nil)
    (pss_cons (ps_expr (pe_bm PySem.F.plainAttrs_list PySem.F.slot_list_append PySem.F.type_list_append mt_append (pe_fld (pv 0) rfl) (pa_cons (pe_make (mk_Call T) G_Call_init (hr.mono (by decide)) rfl (mg_Call T) b_Call_init .nil pass0 (pa_cons (pv 1) (pa_cons (pv 5) (pa_cons (pv 7) pa_nil)))) pa_nil)))
    (pss_one (ps_ret (pe_lst (pa_cons (pe_tup (pa_cons pe_str (pa_cons (pv 1) (pa_cons (pe_tup (pa_cons pe_str pa_nil)) pa_nil)))) (pa_cons (pe_tup (pa_cons pe_str (pa_cons (pv 5) pa_nil))) pa_nil))))))))), ?_⟩
    have W0 := W
    obtain ⟨L, V1⟩ := W0
    refine ⟨_, rfl, F.sw, _, _, rfl, V1.atSw, mSwitch_find, _, rfl, B, m, p, rfl, W, rfl, _, rfl, ?_⟩
    cases ef : fnd m.cs p with
    | some c =>
      refine nT (fun q => nomatch q) ?_
      exact ⟨_, rfl, B, m, p, .int 17, rfl, ⟨17, rfl⟩, W, fun B' H' l s1 W1 hA => k _ _ _ _ _ s1 (.inl ⟨rfl, _, rfl⟩) W1 hA⟩
    | none =>
      refine nF rfl ?_
      refine ⟨_, rfl, F.sw, _, _, _, _, rfl, V1.atSw, cl_Switch T, na_Switch_home T, gSwitch_home, _, rfl, _, rfl, _, rfl, F.sw, _, _, rfl, V1.atSw, mSwitch_sides, B, m, rfl, W, C.few, fun H1 l1 s1 nl1 h1 => ?_⟩
      have hll1 := s1 _ _ (V1.same _ _ hll)
      refine ⟨_, rfl, ll, _, rfl, .inl (SqL.of hll1), fun l2 nl2 => ?_⟩
      have s2 := s1.trans (same_upd (o := .lst (ls.map natV)) nl2)
      have n12 : l1 ≠ l2 := ne_of_none h1 nl2
      have e1 := sidesV_nat C.cd
      have few := C.few
      refine ⟨l1, l2, _, _, rfl, rfl, (upd_ne n12).trans h1, upd_same, ?_, fun l3 nl3 => ?_⟩
      · rw [sidesV_len, List.length_map]
        exact small (N := 3000) (by omega) Wk.bl
      have s3 := s2.trans (same_upd (o := .lst (sidesV m.cs ++ ls.map natV)) nl3)
      have V3 := V1.grow s3
      refine ⟨F.home, F.n, p, v, l3, sides m.cs ++ ls, 0, rfl, V3.atHome, hv, ?_, fun H4 t4 goal cause hops s4 ht hg => ?_⟩
      · rw [upd_same, e1, ← List.map_append]
      have V4 := V3.grow s4
      have W4 : Wd K F B m H4 := ⟨_, V4⟩
      refine ⟨t4, _, rfl, SqT.of ht, rfl, _, _, rfl, _, _, rfl, _, _, rfl, rfl, ?_⟩
      rcases hg with rfl | ⟨g, rfl, g1, g2, g3⟩
      · refine ⟨_, rfl, rfl, _, rfl, tT rfl ?_⟩
        exact ⟨_, rfl, _, rfl, B, m, p, .int cause, rfl, ⟨cause, rfl⟩, W4, fun B' H' l s1 W1 hA => k _ _ _ _ _ s1 (.inl ⟨rfl, _, rfl⟩) W1 hA⟩
      · refine ⟨_, rfl, rfl, _, rfl, tF (fun q => nomatch q) ?_⟩
        refine ⟨_, rfl, F.sw, _, _, _, _, rfl, V4.atSw, cl_Switch T, na_Switch_rows T, gSwitch_rows, .inl ⟨rfl, _, SqL.of V4.atRows⟩, _, rfl, _, rfl, _, rfl, fun x dx nx ndx nxd => ?_⟩
        refine ⟨x, dx, p, g, hops, rfl, upd_same, fun H5 hk5 hx5 => ⟨rfl, ?_⟩⟩
        have s5 : Same H4 H5 := fun b o e => by
          have nb : b ≠ x := ne_of_none e nx
          rw [hk5 b nb, upd_ne nb, upd_ne (ne_of_none e ndx)]
          exact e
        obtain ⟨L6, V6⟩ := V4.newCall (c := newC x p g hops) s5 nx hx5
        refine ⟨L.ad .rows, _, _, rfl, rfl, s5 _ _ V4.atRows, ?_, ?_⟩
        · rw [List.length_map]
          exact small1 (N := 1000) C.few Wk.bl
        have W6 : Wd K F B _ _ := ⟨_, V6⟩
        refine ⟨_, rfl, Wk.bl, fun b nb => ?_⟩
        obtain ⟨B7, s7, W7, h7⟩ := W6.imm nb (.tup [.str "proceeding"])
        refine ⟨Wk.bl, fun y ny => ?_⟩
        obtain ⟨B8, s8, W8, h8⟩ := W7.imm ny (.tup [.str "tell", natV p, .ref b])
        refine ⟨_, rfl, Wk.bl, fun z nz => ?_⟩
        obtain ⟨B9, s9, W9, h9⟩ := W8.imm nz (.tup [.str "page", natV g])
        refine ⟨Wk.bl, fun l nl => ?_⟩
        obtain ⟨B10, s10, W10, h10⟩ := W9.imm nl (.lst [.ref y, .ref z])
        have st := s9.trans s10
        rw [List.mem_append, not_or] at g3
        exact k _ _ _ _ _ ((s7.trans s8).trans st) (.inr ⟨g, x, hops, ef, g1, g2, g3.1, rfl, rfl⟩) W10 ⟨[y, z], h10, .cons ⟨b, st _ _ h8, st _ _ (s8 _ _ h7), trivial⟩ (.cons (s10 _ _ h9) .nil)⟩
end
end Wk
end
section
set_option Elab.async false
set_option linter.all false
set_option maxRecDepth 100000
/-! The walk: not_reached, failed. -/
namespace Wk
open PySem L2 He Mth Fl Wl Tx PyProof.Rows
theorem uncalled {m : M} {c c' : Cl} (hA : Ads m.cs) (hc : c ∈ m.cs) (e1 : c'.ad = c.ad) (e2 : c'.cr = c.cr) (e3 : c'.line = c.line) : dropC { m with cs := setC m.cs c' } c' = dropC m c := by
  unfold dropC
  rw [e2, e3]
  have key : (setC m.cs c').filter (fun e => decide (e.cr ≠ c.cr)) = m.cs.filter fun e => decide (e.cr ≠ c.cr) := by
    have : ∀ {l : List Cl}, (∀ x ∈ l, x ∈ m.cs) → (setC l c').filter (fun e => decide (e.cr ≠ c.cr)) = l.filter fun e => decide (e.cr ≠ c.cr) := by
      intro l
      induction l with
      | nil => exact fun _ => rfl
      | cons x l ih =>
        intro hl
        have ih := ih fun y hy => hl y (List.mem_cons_of_mem _ hy)
        show ((if x.ad = c'.ad then c' else x) :: setC l c').filter _ = _
        by_cases z : x.ad = c'.ad
        · have ex : x = c := hA.uniq (hl x List.mem_cons_self) hc (z.trans e1)
          rw [if_pos z, List.filter_cons_of_neg (by rw [e2]; simp), ih, ex, List.filter_cons_of_neg (by simp)]
        · rw [if_neg z]
          by_cases y : x.cr = c.cr
          · rw [List.filter_cons_of_neg (by simp [y]), List.filter_cons_of_neg (by simp [y]), ih]
          · rw [List.filter_cons_of_pos (by simp [y]), List.filter_cons_of_pos (by simp [y]), ih]
    exact this fun x hx => hx
  dsimp only
  rw [key]
/-- the called one is not reached: the call ends, or goes to another -/
def NrR (n : Nat) (m : M) (c : Cl) (m' : M) (acts : List Mth.Act) : Prop := (∃ cause, m' = dropC m c ∧ acts = Mth.refuse c.cr cause) ∨
  ∃ u h, u < n ∧ u ∉ sides (others m.cs c.ad) ∧ u ≠ c.cr ∧ m' = { m with cs := setC m.cs { c with cd := some u, st := .looking, hops := h } } ∧ acts = [.page u]
section
variable {P : Program} {w : World} {K : PySem.W.Frag} {mg : Str → Option Value} {base : Heap} {F : Fx}
def spNr (K : PySem.W.Frag) (F : Fx) : Sp := fun vs H Q _ => ∃ (B : Hp) (m : M) (c : Cl) (g : Nat) (x : Str) (j : Int) (ll : Addr) (ls : List Nat), vs = [.ref F.sw, .ref c.ad, .str x, .int j, .ref ll] ∧ Wd K F B m H ∧ Cs m ∧ c ∈ m.cs ∧ c.cd = some g ∧ g < F.n ∧ B ll = some (.lst (ls.map natV)) ∧ ls.length ≤ 1000 ∧
  ∀ B' H' l m' acts, Same B B' → NrR F.n m c m' acts → Wd K F B' m' H' → ActsAt B' l acts → Q (.ref l) H'
theorem ok_Switch_not_reached (T : Txt K mg) : Has P w K mg base CX0 5 (ma K (ga K "Switch") "not_reached") ["self", "call", "kind", "cause", "linked"] (spNr K F) := by
  obtain ⟨fd, Fn⟩ := fd_Switch_not_reached T
  obtain ⟨_, G_Home_forward, b_Home_forward, k_Home_forward⟩ := ok_Home_forward (P := P) (w := w) (base := base) T
  obtain ⟨_, G_Switch_sides, b_Switch_sides, k_Switch_sides⟩ := ok_Switch_sides (P := P) (w := w) (base := base) (F := F) T
  obtain ⟨_, G_find_goal, b_find_goal, k_find_goal⟩ := ok_find_goal (P := P) (w := w) (base := base) T
  obtain ⟨_, G_Switch_drop, b_Switch_drop, k_Switch_drop⟩ := ok_Switch_drop (P := P) (w := w) (base := base) (F := F) T
  obtain ⟨_, G_refuse, b_refuse, k_refuse⟩ := ok_refuse (P := P) (w := w) (base := base) (F := F) T
  obtain ⟨tHOPS, gHOPS⟩ := mg_HOPS T
  refine ⟨fd, Fn.ok sc_Switch_not_reached (fun vs H Q E h => ?_) (fun cdv A outer s H vs Q E hr h => ?_), bi_Switch_not_reached Fn, Fn.kp⟩
  · obtain ⟨B, m, c, g, x, j, ll, ls, rfl, _⟩ := h
    rfl
  · obtain ⟨B, m, c, g, x, j, ll, ls, rfl, ⟨L, V1⟩, C, hc, hg, hgn, hll, hls, k⟩ := h
    refine ⟨_, PSs.nox (pss_cons (ps_set (i := 5) sc_Switch_not_reached.nd rfl (Or.inl rfl) (pe_meth (pe_fld (pv 0) rfl) (cl_Home T) (me_Home_forward T) G_Home_forward (hr.mono (by decide)) b_Home_forward .nil pass0 (pa_cons (pe_fld (pv 1) rfl) (pa_cons (pv 2) pa_nil))))
    (pss_cons (ps_set (i := 6) sc_Switch_not_reached.nd rfl (Or.inl rfl) pe_non)
    (pss_cons (ps_fld (pv 1) pe_non rfl)
    (pss_cons (ps_if (pt_cmpR op_notN (pv 5) pe_non (nomark _))
      (pss_cons (ps_set (i := 3) sc_Switch_not_reached.nd rfl (Or.inl rfl) pe_int)
      (pss_one (ps_if (pt_cmpR op_lt (pe_fld (pv 1) rfl) (pe_glob (v := .int 2) rfl gHOPS ⟨_, rfl⟩) (nomark _))
        (pss_cons (ps_set (i := 7) sc_Switch_not_reached.nd rfl (Or.inl rfl) (pe_op op_cat (pe_lc (own := [("side", 8)]) (g := gName 8) (tt := (tTest (tOp (fun x y H Q => y = .non ∧ Q (.bl (!decide (x = .non))) H) (tVar 8) (L2.tC .non)))) (te := (tVar 8)) rfl sc_Switch_not_reached.nd (pi_list (pe_meth0 (pv 0) (cl_Switch T) (me_Switch_sides T) G_Switch_sides (hr.mono (by decide)) b_Switch_sides .nil pass0)) (blkOk_by (own := [("side", 8)]) (N := n_Switch_not_reached) (sc := defScope s_Switch_not_reached) (by decide +kernel)) (fun _ _ _ _ _ => pg_name (i := 8) sc_Switch_not_reached.nd rfl (Or.inl rfl)) (fun _ _ _ _ _ => (pts_one (pt_cmpR op_notN (pv 8) pe_non (nomark _)))) (fun _ _ _ _ _ => (pv 8))) (pe_callTy call_list_of (by rfl) (fr_list T) (by decide +kernel) (pa_cons (pv 4) pa_nil))))
        (pss_one (ps_asg (pe_call G_find_goal (hr.mono (by decide)) rfl (mg_find_goal T) k_find_goal b_find_goal .nil pass0 (pa_cons (pe_fld (pv 0) rfl) (pa_cons (pv 5) (pa_cons (pe_fld (pv 1) rfl) (pa_cons (pv 7) (pa_cons (pe_op op_add (pe_fld (pv 1) rfl) pe_int) pa_nil)))))) (pg_tup (by rfl) (pgs_cons (pg_name (i := 6) sc_Switch_not_reached.nd rfl (Or.inl rfl)) (pgs_cons (pg_name (i := 3) sc_Switch_not_reached.nd rfl (Or.inl rfl)) (pgs_cons (pg_fld (pv 1)) pgs_nil)))))))
        pss_nil)))
      pss_nil)
    (pss_cons (ps_if (pt_cmpR op_isN (pv 6) pe_non (nomark _))
      (pss_cons (ps_expr (pe_meth (pv 0) (cl_Switch T) (me_Switch_drop T) G_Switch_drop (hr.mono (by decide)) b_Switch_drop .nil pass0 (pa_cons (pv 1) (pa_cons pe_int (pa_cons (pv 3) pa_nil)))))
      (pss_one (ps_ret (pe_call G_refuse (hr.mono (by decide)) rfl (mg_refuse T) k_refuse b_refuse .nil pass0 (pa_cons (pe_fld (pv 1) rfl) (pa_cons (pv 3) pa_nil))))))
      pss_nil)
    (pss_cons (ps_fld (pv 1) (pv 6) rfl)
    (pss_cons (ps_fld (pv 1) pe_str rfl)
    (pss_one (ps_ret (pe_lst (pa_cons (pe_tup (pa_cons pe_str (pa_cons (pv 6) pa_nil))) pa_nil))))))))))), ?_⟩
    obtain ⟨ps, hR, hl, hP⟩ := homeRows V1.atHome
    obtain ⟨q, hq, hq2⟩ := map_at2 hl hgn
    obtain ⟨px, d1, z1, ar, nd, kvs, e1, e2, e3, _⟩ := hP q hq2
    have hR2 := hR
    obtain ⟨dx, rl, g1, g2⟩ := hR2
    refine ⟨_, rfl, F.sw, _, _, _, _, rfl, V1.atSw, cl_Switch T, na_Switch_home T, gSwitch_home, F.home, dx, _, rfl, g1, mHome_forward, _, rfl, c.ad, _, _, _, _, rfl, V1.atCall hc, cl_Call T, na_Call_called T, gCall_called, _, rfl, ?_⟩
    refine ⟨F.home, g, ps, q, d1, z1, ar, nd, x, kvs, by rw [hg]; rfl, hR, hq, ⟨px, e1⟩, e2, ?_⟩
    have hnv := numV_get e3 (.inr x)
    generalize (valV kvs (Sum.inr x)).getD V.non = v2 at hnv ⊢
    refine ⟨_, rfl, c.ad, _, _, _, rfl, V1.atCall hc, cl_Call T, na_Call_called T, Wk.bl, ?_⟩
    rw [show putF "called" V.non (clF c) = clF { c with cd := none } from pCall_called]
    have V2 := V1.setCall (c' := { c with cd := none }) hc rfl
    have hc2 : ({ c with cd := none } : Cl) ∈ setC m.cs { c with cd := none } := setC_mem hc rfl
    have a2 := WL.atCall (c := { c with cd := none }) V2 hc2
    -- the end: gone, or to u
    have ending : ∀ (B3 H3 : Hp) (L3 : Lay) (hp : Int) (jc : Int), Same B B3 → WL K F B3 L3 { m with cs := setC m.cs { c with cd := none, hops := hp } } H3 → ∀ (G : Hp → Prop),
        (∀ B4 H4 dx4, Same B B4 → Wd K F B4 (dropC m c) H4 → H4 c.ad = some (.ins (ga K "Call") dx4 (clF { c with cd := none, hops := hp })) → G H4) → spDrop K F [.ref F.sw, .ref c.ad, .int 0, .int jc] H3 (fun _ H => G H) E0 := fun B3 H3 L3 hp jc s3 V3 G hq => by
      have hc3 : ({ c with cd := none, hops := hp } : Cl) ∈ setC m.cs { c with cd := none, hops := hp } := setC_mem hc rfl
      refine ⟨B3, _, { c with cd := none, hops := hp }, 0, .int jc, rfl, ⟨L3, V3⟩, hc3, ?_, fun n en => C.bk c hc n en, fun B4 H4 s4 W4 ⟨dx4, hfz⟩ => ?_⟩
      · unfold setC
        rw [List.length_map]
        exact C.few
      · have ed := uncalled (c' := { c with cd := none, hops := hp }) V1.ads hc rfl rfl rfl
        rw [ed] at W4
        have W4' := W4
        obtain ⟨L4, V4⟩ := W4'
        exact hq _ _ _ (s3.trans s4) W4 (V4.same _ _ hfz)
    have refusal : ∀ (B4 H4 : Hp) (jc : Int), Same B B4 → Wd K F B4 (dropC m c) H4 → spRefuse K F [natV c.cr, .int jc] H4 Q E0 := fun B4 H4 jc s4 W4 =>
      ⟨B4, dropC m c, c.cr, .int jc, rfl, ⟨jc, rfl⟩, W4, fun B' H' l s5 W5 hA => k _ _ _ _ _ (s4.trans s5) (.inl ⟨_, rfl, rfl⟩) W5 hA⟩
    refine ⟨_, rfl, rfl, _, rfl, ?_⟩
    refine nC (fun hne => ?_) fun hno => ?_
    · refine ⟨_, rfl, c.ad, _, _, _, _, rfl, a2, cl_Call T, na_Call_hops T, gCall_hops, _, _, rfl, rfl, _, rfl, ?_⟩
      refine tC (fun hlt => ?_) fun hge => ?_
      · refine ⟨_, rfl, F.sw, _, _, rfl, V2.atSw, mSwitch_sides, B, _, rfl, ⟨_, V2⟩, ?_, fun H3 l3 s3 nl3 h3 => ?_⟩
        · show (setC m.cs _).length ≤ 1000
          unfold setC
          rw [List.length_map]
          exact C.few
        refine ⟨l3, rfl, ⟨_, SqL.of h3⟩, fun D nD => ?_⟩
        have s3D : Same H3 (upd H3 D (.lst [])) := same_upd nD
        generalize hxs : sidesV (setC m.cs { c with cd := none }) = xs at h3
        have lxs : xs.length ≤ 2000 := by
          have few := C.few
          rw [← hxs, sidesV_len]
          unfold setC
          rw [List.length_map]
          omega
        refine lc_list (K := K) (a := l3) (xs := xs) (fun i H' => Same H3 H' ∧ H' D = some (.lst ((xs.take i).filter fun v => !decide (v = V.non)))) ⟨s3D, upd_same⟩ (fun i H' _ ⟨s, _⟩ => SqL.of (s _ _ h3)) ?_ ?_
        · rintro i y H4 hi ⟨s4, h4⟩
          have hi2 : i < xs.length := (List.getElem?_eq_some_iff.mp hi).1
          refine ⟨rfl, ?_⟩
          refine ⟨_, rfl, rfl, _, rfl, ?_⟩
          refine nC (fun z => ?_) fun z => ?_
          · refine ⟨_, rfl, _, h4, ?_, ?_, ?_⟩
            · have := List.length_filter_le (fun v => !decide (v = V.non)) (xs.take i)
              rw [List.length_take] at this
              exact small1 (N := 2000) (by omega) Wk.bl
            · intro b o eb
              rw [upd_ne (ne_of_none eb nD)]
              exact s4 _ _ eb
            · rw [upd_same, take_at hi, List.filter_append]
              have : [y].filter (fun v => !decide (v = V.non)) = [y] := by simp [z]
              rw [this]
          · refine ⟨s4, ?_⟩
            rw [h4, take_at hi, List.filter_append]
            have : [y].filter (fun v => !decide (v = V.non)) = [] := by simp [z]
            rw [this, List.append_nil]
        · rintro H4 ⟨s4, h4⟩
          rw [List.take_length, ← hxs, sidesV_filter] at h4
          have s24 := s3.trans s4
          have hll4 := s24 _ _ (V2.same _ _ hll)
          have few := C.few
          refine ⟨_, rfl, ll, _, rfl, .inl (SqL.of hll4), fun l5 nl5 => ?_⟩
          have n5 : D ≠ l5 := ne_of_none h4 nl5
          refine ⟨D, l5, _, _, rfl, rfl, (upd_ne n5).trans h4, upd_same, ?_, fun l6 nl6 => ?_⟩
          · have := List.length_filter_le (fun v => !decide (v = V.non)) (sidesV (setC m.cs { c with cd := none }))
            rw [sidesV_filter, hxs] at this
            rw [List.length_map (f := natV) (as := ls)]
            exact small (N := 3000) (by omega) Wk.bl
          have s6 := (s24.trans (same_upd (o := .lst (ls.map natV)) nl5)).trans (same_upd (o := .lst ((sides (setC m.cs { c with cd := none })).map natV ++ ls.map natV)) nl6)
          have V6 := V2.grow s6
          have a6 := WL.atCall (c := { c with cd := none }) V6 hc2
          refine ⟨_, rfl, F.sw, _, _, _, _, rfl, V6.atSw, cl_Switch T, na_Switch_home T, gSwitch_home, _, rfl, _, rfl, c.ad, _, _, _, _, rfl, a6, cl_Call T, na_Call_caller T, gCall_caller, _, rfl, _, rfl, c.ad, _, _, _, _, rfl, a6, cl_Call T, na_Call_hops T, gCall_hops, _, _, rfl, rfl, ?_⟩
          refine ⟨F.home, F.n, c.cr, v2, l6, sides (setC m.cs { c with cd := none }) ++ ls, c.hops + 1, rfl, V6.atHome, hnv, ?_, fun H7 t7 goal cause hops s7 ht hgl => ?_⟩
          · rw [upd_same, ← List.map_append]
          have V7 := V6.grow s7
          have a7 := WL.atCall (c := { c with cd := none }) V7 hc2
          refine ⟨t7, _, rfl, SqT.of ht, rfl, _, _, rfl, _, _, rfl, _, _, rfl, _, rfl, c.ad, _, _, _, rfl, a7, cl_Call T, na_Call_hops T, Wk.bl, rfl, ?_⟩
          rw [show putF "hops" (V.int hops) (clF { c with cd := none }) = clF { c with cd := none, hops := hops } from pCall_hops]
          have V8 := V7.setCall (c := { c with cd := none }) (c' := { c with cd := none, hops := hops }) hc2 rfl
          have e8 : setC (setC m.cs { c with cd := none }) { c with cd := none, hops := hops } = setC m.cs { c with cd := none, hops := hops } := setC_setC rfl
          dsimp only at V8
          rw [e8] at V8
          rcases hgl with rfl | ⟨u, rfl, u1, u2, u3⟩
          · refine ⟨_, rfl, rfl, _, rfl, tT rfl ?_⟩
            exact ⟨_, rfl, F.sw, _, _, rfl, V8.atSw, mSwitch_drop, _, rfl, _, rfl, ending B _ _ hops cause (Same.refl _) V8 _ fun B4 H4 dx4 s4 W4 h4 => ⟨_, rfl, c.ad, _, dx4, _, _, rfl, h4, cl_Call T, na_Call_caller T, gCall_caller, _, rfl, refusal B4 H4 cause s4 W4⟩⟩
          · refine ⟨_, rfl, rfl, _, rfl, tF (fun q => nomatch q) ?_⟩
            have hc8 : ({ c with cd := none, hops := hops } : Cl) ∈ setC m.cs { c with cd := none, hops := hops } := setC_mem hc rfl
            have a8 := WL.atCall (c := { c with cd := none, hops := hops }) V8 hc8
            refine ⟨_, rfl, _, rfl, c.ad, _, _, _, rfl, a8, cl_Call T, na_Call_called T, Wk.bl, ?_⟩
            rw [show putF "called" (natV u) (clF { c with cd := none, hops := hops }) = clF { c with cd := some u, hops := hops } from pCall_called]
            have V9 := V8.setCall (c := { c with cd := none, hops := hops }) (c' := { c with cd := some u, hops := hops }) hc8 rfl
            have e9 : setC (setC m.cs { c with cd := none, hops := hops }) { c with cd := some u, hops := hops } = setC m.cs { c with cd := some u, hops := hops } := setC_setC rfl
            dsimp only at V9
            rw [e9] at V9
            have hc9 : ({ c with cd := some u, hops := hops } : Cl) ∈ setC m.cs { c with cd := some u, hops := hops } := setC_mem hc rfl
            have a9 := WL.atCall (c := { c with cd := some u, hops := hops }) V9 hc9
            refine ⟨_, rfl, c.ad, _, _, _, rfl, a9, cl_Call T, na_Call_stage T, Wk.bl, ?_⟩
            rw [show putF "stage" (V.str "looking") (clF { c with cd := some u, hops := hops }) = clF { c with cd := some u, st := .looking, hops := hops } from pCall_stage]
            have V10 := V9.setCall (c := { c with cd := some u, hops := hops }) (c' := { c with cd := some u, st := .looking, hops := hops }) hc9 rfl
            have e10 : setC (setC m.cs { c with cd := some u, hops := hops }) { c with cd := some u, st := .looking, hops := hops } = setC m.cs { c with cd := some u, st := .looking, hops := hops } := setC_setC rfl
            dsimp only at V10
            rw [e10] at V10
            have W10 : Wd K F B _ _ := ⟨_, V10⟩
            refine ⟨_, rfl, Wk.bl, fun y ny => ?_⟩
            obtain ⟨B11, s11, W11, h11⟩ := W10.imm ny (.tup [.str "page", natV u])
            refine ⟨Wk.bl, fun l nl => ?_⟩
            obtain ⟨B12, s12, W12, h12⟩ := W11.imm nl (.lst [.ref y])
            rw [List.mem_append, not_or] at u3
            have pm := sides_perm (setC_perm (d := { c with cd := none }) V1.ads hc rfl)
            refine k _ _ _ _ _ (s11.trans s12) (.inr ⟨u, hops, u1, fun z => u3.1 (pm.mem_iff.mpr ?_), u2, rfl, rfl⟩) W12 ⟨[y], h12, .cons (s12 _ _ h11) .nil⟩
            show u ∈ c.cr :: ([] ++ sides (others m.cs c.ad))
            exact List.mem_cons_of_mem _ z
      · refine ⟨_, rfl, rfl, _, rfl, tT rfl ?_⟩
        exact ⟨_, rfl, F.sw, _, _, rfl, V2.atSw, mSwitch_drop, _, rfl, _, rfl, ending B _ _ c.hops 31 (Same.refl _) V2 _ fun B4 H4 dx4 s4 W4 h4 => ⟨_, rfl, c.ad, _, dx4, _, _, rfl, h4, cl_Call T, na_Call_caller T, gCall_caller, _, rfl, refusal B4 H4 31 s4 W4⟩⟩
    · refine ⟨_, rfl, rfl, _, rfl, tT rfl ?_⟩
      exact ⟨_, rfl, F.sw, _, _, rfl, V2.atSw, mSwitch_drop, _, rfl, _, rfl, ending B _ _ c.hops j (Same.refl _) V2 _ fun B4 H4 dx4 s4 W4 h4 => ⟨_, rfl, c.ad, _, dx4, _, _, rfl, h4, cl_Call T, na_Call_caller T, gCall_caller, _, rfl, refusal B4 H4 j s4 W4⟩⟩
def spFailed (K : PySem.W.Frag) (F : Fx) : Sp := fun vs H Q _ => ∃ (B : Hp) (m : M) (p : Nat) (ll : Addr) (ls : List Nat) (t : V), vs = [.ref F.sw, natV p, .ref ll, t] ∧ Wd K F B m H ∧ Cs m ∧ p < F.n ∧ B ll = some (.lst (ls.map natV)) ∧ ls.length ≤ 1000 ∧
  ∀ B' H' l m' acts, Same B B' → ((cin m.cs p [.looking] = none ∧ m' = m ∧ acts = []) ∨ ∃ c, cin m.cs p [.looking] = some c ∧ NrR F.n m c m' acts) → Wd K F B' m' H' → ActsAt B' l acts → Q (.ref l) H'
theorem ok_Switch_failed (T : Txt K mg) : Has P w K mg base CX0 6 (ma K (ga K "Switch") "failed") ["self", "person", "linked", "tick"] (spFailed K F) := by
  obtain ⟨fd, Fn⟩ := fd_Switch_failed T
  obtain ⟨_, G_Switch_called_in, b_Switch_called_in, k_Switch_called_in⟩ := ok_Switch_called_in (P := P) (w := w) (base := base) (F := F) T
  obtain ⟨_, G_Switch_not_reached, b_Switch_not_reached, k_Switch_not_reached⟩ := ok_Switch_not_reached (P := P) (w := w) (base := base) (F := F) T
  refine ⟨fd, Fn.ok sc_Switch_failed (fun vs H Q E h => ?_) (fun cdv A outer s H vs Q E hr h => ?_), bi_Switch_failed Fn, Fn.kp⟩
  · obtain ⟨B, m, p, ll, ls, t, rfl, _⟩ := h
    rfl
  · obtain ⟨B, m, p, ll, ls, t, rfl, W, C, hp, hll, hls, k⟩ := h
    refine ⟨_, PSs.nox (pss_cons (ps_set (i := 4) sc_Switch_failed.nd rfl (Or.inl rfl) (pe_meth (pv 0) (cl_Switch T) (me_Switch_called_in T) G_Switch_called_in (hr.mono (by decide)) b_Switch_called_in .nil pass0 (pa_cons (pv 1) (pa_cons (pe_tup (pa_cons pe_str pa_nil)) pa_nil))))
    (pss_cons (ps_if (pt_cmpR op_isN (pv 4) pe_non (nomark _))
      (pss_one (ps_ret (pe_lst pa_nil)))
      pss_nil)
    (pss_one (ps_ret (pe_meth (pv 0) (cl_Switch T) (me_Switch_not_reached T) G_Switch_not_reached (hr.mono (by decide)) b_Switch_not_reached .nil pass0 (pa_cons (pv 4) (pa_cons pe_str (pa_cons pe_int (pa_cons (pv 2) pa_nil))))))))), ?_⟩
    have W0 := W
    obtain ⟨L, V0⟩ := W0
    refine ⟨_, rfl, F.sw, _, _, rfl, V0.atSw, mSwitch_called_in, _, rfl, Wk.bl, fun a na => ?_⟩
    obtain ⟨B1, s1, W1, h1⟩ := W.imm na (.tup [.str "looking"])
    refine ⟨B1, m, p, a, [.looking], rfl, W1, upd_same, ?_⟩
    have W1' := W1
    obtain ⟨L1, V1⟩ := W1'
    cases ec : cin m.cs p [.looking] with
    | none => exact ⟨_, rfl, rfl, _, rfl, tT rfl ⟨Wk.bl, nil_ret W1 fun B' H' l s2 W2 hA => k _ _ _ _ _ (s1.trans s2) (.inl ⟨ec, rfl, rfl⟩) W2 hA⟩⟩
    | some c =>
      obtain ⟨hc, hcd, hs⟩ := cin_some ec
      refine ⟨_, rfl, rfl, _, rfl, tF (fun q => nomatch q) ?_⟩
      refine ⟨_, rfl, F.sw, _, _, rfl, V1.atSw, mSwitch_not_reached, _, rfl, _, rfl, B1, m, c, p, _, _, ll, ls, rfl, W1, C, hc, hcd, hp, s1 _ _ hll, hls, fun B' H' l m' acts s2 hN W2 hA => k _ _ _ _ _ (s1.trans s2) (.inr ⟨c, ec, hN⟩) W2 hA⟩
end
end Wk
end
section
set_option Elab.async false
set_option linter.all false
set_option maxRecDepth 100000
/-! The walk: step. -/
namespace Wk
open PySem L2 He Mth Fl Wl Tx PyProof.Rows
/-! ### a list of one's own, changed in its place -/
def Tsame (B B' : Hp) : Prop := ∀ a xs, B a = some (.tup xs) → B' a = some (.tup xs)
theorem Same.t {B B' : Hp} (s : Same B B') : Tsame B B' := fun a xs h => s a _ h
theorem WordV.t {B B' : Hp} {v : V} (s : Tsame B B') (h : WordV B v) : WordV B' v := by
  obtain ⟨a, x, y, e, k⟩ := h
  exact ⟨a, x, y, e, s _ _ k⟩
theorem MsgAt.t {B B' : Hp} {a : Addr} {x : Msg} (s : Tsame B B') (h : MsgAt B a x) : MsgAt B' a x := ⟨s _ _ h.at_, by
  have f := h.fine
  cases x with
  | word w => exact WordV.t s f
  | setup v => exact f
  | disc c => exact f
  | _ => trivial⟩
theorem ActAt.t {B B' : Hp} {a : Addr} {x : Mth.Act} (s : Tsame B B') (h : ActAt B a x) : ActAt B' a x := by
  cases x with
  | tell p x =>
    obtain ⟨t, h1, h2⟩ := h
    exact ⟨t, s _ _ h1, MsgAt.t s h2⟩
  | release p => exact s _ _ h
  | page p => exact s _ _ h
  | unpage p => exact s _ _ h
theorem PdFine.t {B B' : Hp} {up dn : List Addr} {d : Pd} (s : Tsame B B') (h : PdFine B up dn d) : PdFine B' up dn d :=
  ⟨all2_mono (fun _ _ k => MsgAt.t s k) h.up, all2_mono (fun _ _ k => MsgAt.t s k) h.dn, fun v hv => WordV.t s (h.said v hv), fun v hv => WordV.t s (h.heard v hv), h.num⟩
section
variable {K : PySem.W.Frag} {F : Fx}
theorem local_ {B0 B H : Hp} {L : Lay} {m : M} {l : Addr} {xs : List V} (h : WL K F B L m H) (s0 : Same B0 B) (hb : Base K F B0) (n0 : B0 l = none) (hl : B l = some (.lst xs)) (ys : List V) :
    WL K F (upd B l (.lst ys)) L m (upd H l (.lst ys)) ∧ Same B0 (upd B l (.lst ys)) ∧ Tsame B (upd B l (.lst ys)) := by
  have st : Tsame B (upd B l (.lst ys)) := fun a zs e => by
    rw [upd_ne (ne_of e hl fun z => nomatch z)]
    exact e
  have s1 : Same B0 (upd B l (.lst ys)) := fun a o e => by
    rw [upd_ne (ne_of_none e n0)]
    exact s0 _ _ e
  have out : ∀ r o, obj K F L m r = some o → L.ad r ≠ l := fun r o e z => by
    have := h.out r o e
    rw [z, hl] at this
    cases this
  refine ⟨⟨fun b u e => ?_, fun r o e => ?_, h.inj, fun r o e => ?_, h.fix, hb.mono s1, fun i hi => PdFine.t st (h.fine i hi), all2_mono (fun a b k => ?_) h.book, h.ads⟩, s1, st⟩
  · by_cases z : b = l
    · rw [z, upd_same] at e
      rw [z, upd_same]
      exact e
    · rw [upd_ne z] at e
      rw [upd_ne z]
      exact h.same _ _ e
  · rw [upd_ne (out r o e)]
    exact h.objs r o e
  · rw [upd_ne (out r o e)]
    exact h.out r o e
  · obtain ⟨x, y, z, t, u, k1, k2⟩ := k
    exact ⟨x, y, z, t, u, st _ _ k1, k2⟩
end
/-! ### few calls -/
theorem nodup_lt : ∀ (n : Nat) (l : List Nat), l.Nodup → (∀ x ∈ l, x < n) → l.length ≤ n
  | 0, [], _, _ => Nat.le_refl _
  | 0, x :: l, _, h => absurd (h x List.mem_cons_self) (Nat.not_lt_zero _)
  | n + 1, l, hn, h => by
    by_cases z : n ∈ l
    · have h1 := nodup_lt n (l.erase n) (hn.erase n) fun x hx => by
        have h2 := hn.mem_erase_iff.mp hx
        have := h x h2.2
        omega
      rw [List.length_erase_of_mem z] at h1
      omega
    · have := nodup_lt n l hn fun x hx => by
        have h2 := h x hx
        have : x ≠ n := fun q => z (q ▸ hx)
        omega
      omega
theorem sides_len : ∀ {cs : List Cl}, (∀ c ∈ cs, ∃ g, c.cd = some g) → (sides cs).length = 2 * cs.length
  | [], _ => rfl
  | c :: cs, h => by
    obtain ⟨g, hg⟩ := h c List.mem_cons_self
    rw [sides_cons hg, List.length_cons, List.length_cons, sides_len fun e he => h e (List.mem_cons_of_mem _ he), List.length_cons]
    omega
theorem good_few {n : Nat} {m : M} (G : Good n m) : 2 * m.cs.length ≤ n := by
  rw [← sides_len G.cdS]
  exact nodup_lt n _ G.nd G.lt
theorem good_cs {n : Nat} {m : M} (G : Good n m) (hn : n ≤ 5) : Cs m := ⟨G.cdS, G.bkO, by
  have := good_few G
  omega⟩
/-- one call that rang too long -/
theorem step_one {n : Nat} {m m' : M} {acts acts' : List Mth.Act} {c : Cl} {g : Nat} (G : Good n (perf m acts)) (hA : Ads m.cs) (hc : c ∈ m.cs) (hg : c.cd = some g) (hs : c.st = .offered ∨ c.st = .ringing) (h : NrR n m c m' acts') :
    Good n (perf m' (acts ++ (acts' ++ Mth.refuse g (.int 19)))) ∧ m'.pd = m.pd ∧ (∀ e ∈ m.cs, e.ad ≠ c.ad → e ∈ m'.cs) ∧ acts'.length ≤ 2 := by
  have ns : c.st ≠ .looking := by rcases hs with z | z <;> (rw [z]; simp)
  have nt : c.st.talk = false := by rcases hs with z | z <;> (rw [z]; rfl)
  have K := G.call c hc g hg
  have kd := K.cd ns
  have hw : ∀ a ∈ Mth.refuse g (.int 19), a.who = g := fun a ha => by
    simp only [Mth.refuse, List.mem_cons, List.not_mem_nil, or_false] at ha
    rcases ha with rfl | rfl <;> rfl
  have hf : ∀ b, Free (actsP g { (perf m acts).pd g with pa := b } (Mth.refuse g (.int 19))) := fun b => refuse_free kd.li kd.re
  rcases h with ⟨cause, rfl, rfl⟩ | ⟨u, hp, u1, u2, u3, rfl, rfl⟩
  · refine ⟨?_, rfl, fun e he ne => ?_, Wk.bl⟩
    · have := good_end G hA hc hg hw hf cause
      rw [perf_app]
      exact this
    · refine List.mem_filter.mpr ⟨he, decide_eq_true fun z => ne ?_⟩
      rw [side_uniq G.nd he hc (.inl rfl) (.inl z)]
  · refine ⟨?_, rfl, fun e he ne => ?_, Wk.bl⟩
    · have := good_divert G hA hc hg nt hw hf u1 u2 u3 hp
      rw [perf_app]
      exact this
    · exact List.mem_map.mpr ⟨e, he, if_neg ne⟩
theorem who_ref {n p : Nat} {c : V} (h : p < n) : ∀ a ∈ Mth.refuse p c, a.who < n := fun a ha => by
  simp only [Mth.refuse, List.mem_cons, List.not_mem_nil, or_false] at ha
  rcases ha with rfl | rfl <;> exact h
section
variable {P : Program} {w : World} {K : PySem.W.Frag} {mg : Str → Option Value} {base : Heap} {F : Fx}
def spStep (K : PySem.W.Frag) (F : Fx) : Sp := fun vs H Q _ => ∃ (B : Hp) (m : M) (ll : Addr) (ls : List Nat) (t : Int), vs = [.ref F.sw, .ref ll, .int t] ∧ Wd K F B m H ∧ Good F.n m ∧ B ll = some (.lst (ls.map natV)) ∧ ls.length ≤ 1000 ∧
  ∀ B' H' l m' acts, Same B B' → Good F.n (perf m' acts) → m'.pd = m.pd → m'.bk.length = m.bk.length → acts.length ≤ 20 → (∀ a ∈ acts, a.who < F.n) → Wd K F B' m' H' → ActsAt B' l acts → Q (.ref l) H'
theorem ok_Switch_step (T : Txt K mg) : Has P w K mg base CX0 6 (ma K (ga K "Switch") "step") ["self", "linked", "tick"] (spStep K F) := by
  obtain ⟨fd, Fn⟩ := fd_Switch_step T
  obtain ⟨_, G_Switch_not_reached, b_Switch_not_reached, k_Switch_not_reached⟩ := ok_Switch_not_reached (P := P) (w := w) (base := base) (F := F) T
  obtain ⟨_, G_refuse, b_refuse, k_refuse⟩ := ok_refuse (P := P) (w := w) (base := base) (F := F) T
  obtain ⟨tRING, gRING⟩ := mg_RING T
  refine ⟨fd, Fn.ok sc_Switch_step (fun vs H Q E h => ?_) (fun cdv A outer s H vs Q E hr h => ?_), bi_Switch_step Fn, Fn.kp⟩
  · obtain ⟨B, m, ll, ls, t, rfl, _⟩ := h
    rfl
  · obtain ⟨B, m, ll, ls, t, rfl, W, G0, hll, hls, k⟩ := h
    refine ⟨_, PSs.nox (pss_cons (ps_set (i := 3) sc_Switch_step.nd rfl (Or.inl rfl) (pe_lst pa_nil))
    (pss_cons (ps_for PassesOwn.never rfl (pi_list (pe_callTy call_list_of (by rfl) (fr_list T) (by decide +kernel) (pa_cons (pe_fld (pv 0) rfl) pa_nil))) (pg_name (i := 4) sc_Switch_step.nd rfl (Or.inl rfl))
      (pss_one (ps_if (PW.pt (pw_and (pt_cmpR op_in_seq (pe_fld (pv 4) rfl) (pe_tup (pa_cons pe_str (pa_cons pe_str pa_nil))) (by rfl)) (pw_and1 (pt_cmpR op_ge (pe_op op_sub (pv 2) (pe_fld (pv 4) rfl)) (pe_glob (v := .int 16) rfl gRING ⟨_, rfl⟩) (nomark _)))))
        (pss_cons (ps_set (i := 5) sc_Switch_step.nd rfl (Or.inl rfl) (pe_fld (pv 4) rfl))
        (pss_cons (ps_expr (pe_bm PySem.F.plainAttrs_list PySem.F.slot_list_extend PySem.F.type_list_extend mt_extend (pv 3) (pa_cons (pe_meth (pv 0) (cl_Switch T) (me_Switch_not_reached T) G_Switch_not_reached (hr.mono (by decide)) b_Switch_not_reached .nil pass0 (pa_cons (pv 4) (pa_cons pe_str (pa_cons pe_int (pa_cons (pv 1) pa_nil))))) pa_nil)))
        (pss_one (ps_expr (pe_bm PySem.F.plainAttrs_list PySem.F.slot_list_extend PySem.F.type_list_extend mt_extend (pv 3) (pa_cons (pe_call G_refuse (hr.mono (by decide)) rfl (mg_refuse T) k_refuse b_refuse .nil pass0 (pa_cons (pv 5) (pa_cons pe_int pa_nil))) pa_nil))))))
        pss_nil)))
    (pss_one (ps_ret (pv 3))))), ?_⟩
    have W0 := W
    obtain ⟨L, V0⟩ := W0
    have hb0 := V0.base
    have few := good_few G0
    have n5 := hb0.five
    refine ⟨Wk.bl, fun la nla => ?_⟩
    have nB := V0.same.free nla
    obtain ⟨V1, s1⟩ := V0.imm nla (.lst [])
    have hla : upd B la (.lst []) la = some (.lst []) := upd_same
    have V1r := V1.atRows
    refine ⟨_, rfl, F.sw, _, _, _, _, rfl, V1.atSw, cl_Switch T, na_Switch_rows T, gSwitch_rows, L.ad .rows, _, rfl, .inl (SqL.of V1r), fun lc nlc => ?_⟩
    obtain ⟨V2, s2⟩ := V1.imm nlc (.lst (m.cs.map fun c => .ref c.ad))
    have hlc : upd (upd B la (.lst [])) lc (.lst (m.cs.map fun c => .ref c.ad)) lc = some (.lst (m.cs.map fun c => .ref c.ad)) := upd_same
    have nlc2 : la ≠ lc := ne_of_none (V1.same _ _ hla) nlc
    generalize hB2 : upd (upd B la (.lst [])) lc (.lst (m.cs.map fun c => .ref c.ad)) = B2 at V2 s2 hlc
    have hla2 : B2 la = some (.lst []) := s2 _ _ hla
    have s02 : Same B B2 := s1.trans s2
    refine ⟨lc, rfl, ⟨_, SqL.of (V2.same _ _ hlc)⟩, ?_⟩
    refine for_list (K := K) (a := lc) (xs := m.cs.map fun c => .ref c.ad) (fun i σ H' => ∃ (a b : Option V) (B' : Hp) (m' : M) (acts : List Mth.Act) (as : List Addr), σ = [some (.ref F.sw), some (.ref ll), some (.int t), some (.ref la), a, b] ∧ Same B B' ∧ Wd K F B' m' H' ∧ Good F.n (perf m' acts) ∧ m'.pd = m.pd ∧ m'.bk.length = m.bk.length ∧
        B' la = some (.lst (as.map V.ref)) ∧ Paired (ActAt B') as acts ∧ (acts.length ≤ 4 * i ∧ ∀ a ∈ acts, a.who < F.n) ∧ B' lc = some (.lst (m.cs.map fun c => .ref c.ad)) ∧ ∀ j e, i ≤ j → m.cs[j]? = some e → e ∈ m'.cs)
      ⟨none, none, B2, m, [], [], rfl, s02, ⟨L, V2⟩, G0, rfl, rfl, hla2, .nil, ⟨Nat.zero_le _, fun a h => nomatch h⟩, hlc, fun j e _ he => List.mem_of_getElem? he⟩ (fun i σ H' _ ⟨_, _, B', m', _, _, _, _, ⟨_, V⟩, _, _, _, _, _, _, h, _⟩ => SqL.of (V.same _ _ h)) ?_ ?_
    · rintro i x σ H3 hi ⟨a, b, B3, m3, acts, as, rfl, s3, W3, G3, hpd, hbl, hla3, hP, ⟨hlen, hwho⟩, hlc3, hmem⟩
      obtain ⟨c, hc, rfl⟩ := cl_at hi
      have hm := hmem i c (Nat.le_refl _) hc
      have W3' := W3
      obtain ⟨L3, V3⟩ := W3'
      have hi5 : i < m.cs.length := (List.getElem?_eq_some_iff.mp hc).1
      have stay : ∀ j e, i + 1 ≤ j → m.cs[j]? = some e → e ∈ m3.cs ∧ e.ad ≠ c.ad := fun j e hj he => by
        refine ⟨hmem j e (by omega) he, fun z => ?_⟩
        have hn : (m.cs.map (·.ad)).Nodup := V0.ads
        have l1 : (m.cs.map (·.ad))[j]? = some e.ad := by rw [List.getElem?_map, he]; rfl
        have l2 : (m.cs.map (·.ad))[i]? = some c.ad := by rw [List.getElem?_map, hc]; rfl
        have k1 := (List.getElem?_eq_some_iff.mp l1).1
        have := (List.getElem?_inj k1 hn).mp (l1.trans (by rw [l2, z]))
        omega
      have skip : ∀ {B4 H4 : Hp}, Same B3 B4 → Wd K F B4 m3 H4 → ∃ (a2 b2 : Option V) (B' : Hp) (m' : M) (acts : List Mth.Act) (as : List Addr), [some (.ref F.sw), some (.ref ll), some (.int t), some (.ref la), some (.ref c.ad), b] = [some (.ref F.sw), some (.ref ll), some (.int t), some (.ref la), a2, b2] ∧ Same B B' ∧ Wd K F B' m' H4 ∧ Good F.n (perf m' acts) ∧ m'.pd = m.pd ∧ m'.bk.length = m.bk.length ∧
        B' la = some (.lst (as.map V.ref)) ∧ Paired (ActAt B') as acts ∧ (acts.length ≤ 4 * (i + 1) ∧ ∀ a ∈ acts, a.who < F.n) ∧ B' lc = some (.lst (m.cs.map fun c => .ref c.ad)) ∧ ∀ j e, i + 1 ≤ j → m.cs[j]? = some e → e ∈ m'.cs := fun s4 W4 =>
        ⟨_, b, _, m3, acts, as, rfl, s3.trans s4, W4, G3, hpd, hbl, s4 _ _ hla3, all2_mono (fun _ _ q => q.mono s4) hP, ⟨by omega, hwho⟩, s4 _ _ hlc3, fun j e hj he => (stay j e hj he).1⟩
      refine ⟨_, rfl, c.ad, _, _, _, _, rfl, V3.atCall hm, cl_Call T, na_Call_stage T, gCall_stage, Wk.bl, fun ts nts => ?_⟩
      obtain ⟨B4, s4, W4, h4⟩ := W3.imm nts (.tup [.str "offered", .str "ringing"])
      have W4' := W4
      obtain ⟨L4, V4⟩ := W4'
      refine ⟨ts, _, rfl, .inr (SqT.of upd_same), rfl, rfl, _, rfl, ?_⟩
      rw [show inV (V.str (sgS c.st)) [V.str "offered", V.str "ringing"] = decide (c.st ∈ [Sg.offered, Sg.ringing]) from inV_str c.st [.offered, .ringing]]
      refine tC (fun hs => ?_) fun _ => ?_
      · refine ⟨_, rfl, _, rfl, c.ad, _, _, _, _, rfl, V4.atCall hm, cl_Call T, na_Call_since T, gCall_since, _, _, rfl, rfl, _, _, rfl, rfl, _, rfl, ?_⟩
        refine tC (fun _ => ?_) fun _ => ?_
        · have hs : c.st = .offered ∨ c.st = .ringing := by simpa using hs
          obtain ⟨g, hg⟩ := G3.cdS c hm
          have gn : g < F.n := G3.lt _ (sides_cd hm hg)
          refine ⟨_, rfl, c.ad, _, _, _, _, rfl, V4.atCall hm, cl_Call T, na_Call_called T, gCall_called, ?_⟩
          have hla4 := s4 _ _ hla3
          refine ⟨_, rfl, .inl ⟨rfl, _, SqL.of (V4.same _ _ hla4)⟩, _, rfl, F.sw, _, _, rfl, V4.atSw, mSwitch_not_reached, _, rfl, _, rfl, ?_⟩
          have C4 : Cs m3 := good_cs (m := perf m3 acts) G3 n5 |> fun q => ⟨q.cd, q.bk, q.few⟩
          refine ⟨B4, m3, c, g, _, 19, ll, ls, rfl, W4, C4, hm, hg, gn, s4 _ _ (s3 _ _ hll), hls, fun B5 H5 l5 m5 acts5 s5 hN W5 hA5 => ?_⟩
          have W5' := W5
          obtain ⟨L5, V5⟩ := W5'
          obtain ⟨as5, ha5, hP5⟩ := hA5
          have st := step_one G3 V3.ads hm hg hs hN
          have hla5 := s5 _ _ hla4
          have len := all2_len hP
          have len5 := all2_len hP5
          have bl5 : m5.bk.length = m3.bk.length := by
            rcases hN with ⟨_, rfl, _⟩ | ⟨_, _, _, _, _, rfl, _⟩
            · show (dropBk m3.bk c.line).length = _
              cases c.line with
              | none => rfl
              | some q => exact List.length_set ..
            · rfl
          refine ⟨la, l5, _, _, rfl, rfl, V5.same _ _ hla5, V5.same _ _ ha5, ?_, ?_⟩
          · rw [List.length_map, List.length_map]
            have := st.2.2.2
            exact small (N := 100) (by omega) Wk.bl
          -- the list grows
          have s35 : Same B B5 := ((s3.trans s4).trans s5)
          obtain ⟨V6, s6, t6⟩ := local_ V5 s35 hb0 nB hla5 (as.map V.ref ++ as5.map V.ref)
          have W6 : Wd K F _ m5 _ := ⟨_, V6⟩
          have hla6 : upd B5 la (.lst (as.map V.ref ++ as5.map V.ref)) la = some (.lst (as.map V.ref ++ as5.map V.ref)) := upd_same
          refine ⟨_, rfl, .inl ⟨rfl, _, SqL.of upd_same⟩, _, by rw [hg]; rfl, _, _, g, .int 19, rfl, ⟨19, rfl⟩, W6, fun B7 H7 l7 s7 W7 hA7 => ?_⟩
          have W7' := W7
          obtain ⟨L7, V7⟩ := W7'
          obtain ⟨as7, ha7, hP7⟩ := hA7
          have hla7 := s7 _ _ hla6
          have len7 := all2_len hP7
          have l2 : (Mth.refuse g (.int 19)).length = 2 := rfl
          refine ⟨la, l7, _, _, rfl, rfl, V7.same _ _ hla7, V7.same _ _ ha7, ?_, ?_⟩
          · rw [List.length_append, List.length_map, List.length_map, List.length_map]
            have := st.2.2.2
            exact small (N := 100) (by omega) Wk.bl
          obtain ⟨V8, s8, t8⟩ := local_ V7 (s6.trans s7) hb0 nB hla7 ((as.map V.ref ++ as5.map V.ref) ++ as7.map V.ref)
          have nl : lc ≠ la := nlc2.symm
          have hlc5 := s5 _ _ (s4 _ _ hlc3)
          refine ⟨_, _, _, m5, acts ++ (acts5 ++ Mth.refuse g (.int 19)), as ++ (as5 ++ as7), rfl, s8, ⟨_, V8⟩, st.1, st.2.1.trans hpd, bl5.trans hbl, ?_, ?_, ?_, ?_, fun j e hj he => ?_⟩
          · rw [upd_same, List.map_append, List.map_append, List.append_assoc]
          · have c1 : Tsame B3 (upd B7 la (.lst ((as.map V.ref ++ as5.map V.ref) ++ as7.map V.ref))) := fun a xs e => t8 _ _ (s7 _ _ (t6 _ _ (s5 _ _ (s4 _ _ e))))
            have c2 : Tsame B5 (upd B7 la (.lst ((as.map V.ref ++ as5.map V.ref) ++ as7.map V.ref))) := fun a xs e => t8 _ _ (s7 _ _ (t6 _ _ e))
            exact all2_app (all2_mono (fun _ _ q => ActAt.t c1 q) hP) (all2_app (all2_mono (fun _ _ q => ActAt.t c2 q) hP5) (all2_mono (fun _ _ q => ActAt.t t8 q) hP7))
          · refine ⟨?_, fun a ha => ?_⟩
            · rw [List.length_append, List.length_append, l2]
              have := st.2.2.2
              omega
            · rcases List.mem_append.mp ha with q | q
              · exact hwho a q
              rcases List.mem_append.mp q with q | q
              · rcases hN with ⟨cause, _, rfl⟩ | ⟨u, _, u1, _, _, _, rfl⟩
                · exact who_ref (G3.lt _ (sides_cr hm)) a q
                · rw [List.mem_singleton.mp q]
                  exact u1
              · exact who_ref gn a q
          · rw [upd_ne nl]
            refine s7 _ _ ?_
            rw [upd_ne nl]
            exact hlc5
          · obtain ⟨e1, e2⟩ := stay j e hj he
            exact st.2.2.1 e e1 e2
        · obtain ⟨x1, x2, x3, x4, x5, x6, e, y⟩ := skip s4 W4
          exact ⟨x1, x2, x3, x4, x5, x6, e, y⟩
      · obtain ⟨x1, x2, x3, x4, x5, x6, e, y⟩ := skip s4 W4
        exact ⟨x1, x2, x3, x4, x5, x6, e, y⟩
    · rintro σ H3 ⟨a, b, B3, m3, acts, as, rfl, s3, W3, G3, hpd, hbl, hla3, hP, ⟨hlen, hwho⟩, hlc3, hmem⟩
      rw [List.length_map] at hlen
      exact ⟨_, rfl, k _ _ _ _ _ s3 G3 hpd hbl (by omega) hwho W3 ⟨as, hla3, hP⟩⟩
end
end Wk
end
section
set_option Elab.async false
set_option linter.all false
set_option maxRecDepth 100000
/-! NEXT.get((now, kind)): a written dict whose keys are tuples of texts. -/
namespace Wk
open PySem PySem.Spec L2 He Mth Fl Wl Tx PyProof.Rows
def nextK : List (List Key × V) := [([.inr "starting", .inr "proceeding"], .str "looking"), ([.inr "looking", .inr "alerting"], .str "alerting"), ([.inr "looking", .inr "connect"], .str "active"), ([.inr "alerting", .inr "connect"], .str "active"), ([.inr "idle", .inr "setup"], .str "ringing")]
structure NextIn (P : Program) (w : World) (K : PySem.W.Frag) (d : Addr) : Prop where
  low : (d == sysModules) = false
  ex : ∃ xs : List (List Key × Addr × Value), (∀ h : Heap, K.In h → h.DictOfH (tupleKind (mixKind P w)) d xs) ∧ Paired (fun (p : List Key × V) (q : List Key × Addr × Value) => p.1 = q.1 ∧ RelV p.2 q.2.2) nextK xs
theorem relO_at {k : List Key} : ∀ {kvs : List (List Key × V)} {xs : List (List Key × Addr × Value)}, Paired (fun (p : List Key × V) (q : List Key × Addr × Value) => p.1 = q.1 ∧ RelV p.2 q.2.2) kvs xs → RelO (valV kvs k) ((atKey xs k).map (·.2))
  | _, _, .nil => trivial
  | _, _, @Paired.cons _ _ _ p q kvs xs r t => by
    obtain ⟨e, rv⟩ := r
    by_cases z : p.1 = k
    · rw [valV_pos z]
      have : atKey (q :: xs) k = some q.2 := by
        unfold atKey
        rw [List.find?_cons, decide_eq_true (e.symm.trans z)]
        rfl
      rw [this]
      exact rv
    · rw [valV_neg z]
      have : atKey (q :: xs) k = atKey xs k := by
        unfold atKey
        rw [List.find?_cons, decide_eq_false fun y => z (e.trans y)]
      rw [this]
      exact relO_at t
def tNget (ty : TE) : TE := fun σ H Q => ty σ H fun y H2 => ∃ b k, y = .ref b ∧ H2 b = some (.tup (k.map kV)) ∧ Q ((valV nextK k).getD .non) H2
theorem pe_nget {X : Cx} {d : Addr} {o e : Expr} {apos cpos : Pos} {ty : TE} (N : NextIn X.prog X.w X.K d) (hu : X.A.units + 1 < cLine) (ho : PE X o (L2.tC (.ref d))) (he : PE X e ty) (m : M1 X o "get" apos e cpos) : PE X (.Call (.Attribute o "get" apos) [e] [] cpos) (tNget ty) := by
  obtain ⟨xs, hD, hP⟩ := N.ex
  refine ⟨fun pins s σ H Q I h => ?_⟩
  refine wpAny_Call_method m.base m.few m.line PySem.F.plainAttrs_dict PySem.F.slot_dict_get PySem.F.type_dict_get (thn (ho.run pins s σ H (fun x H1 => x = .ref d ∧ H1 = H) I ⟨rfl, rfl⟩) fun u s1 ⟨x, H1, I1, rx, ex, eh⟩ => ?_)
  subst ex eh
  obtain rfl : u = Value.ref d := rx
  have dd := hD _ I1.kIn
  refine ⟨dd.typeIs, fun b q => ?_, ?_⟩
  · cases q
    obtain ⟨ob, _, _, h1, h2, _⟩ := dd
    exact ⟨ob, h1, h2.2.1⟩
  rw [m.trees]
  refine Calls.callWith_builtin rfl (Calls.evalArgs_plain (Calls.spliced_cons (thn (he.run pins s1 σ H1 _ I1 h) fun iv s2 ⟨y, H2, I2, ry, b, k, ey, eb, q2⟩ => Calls.spliced_nil ?_)))
  subst ey
  cases (show iv = Value.ref b from ry)
  have dd2 := hD _ I2.kIn
  refine call_meetsIn PySem.F.slot_dict_get dd2.typeIs PySem.F.entry_dict_get (PySem.F.args_dict_get_2 _ _) (meetsH_dict_get (tupleKind (mixKind X.prog X.w)) d b N.low) ⟨tupleKind_room_in1 hu, k, xs, key_of I2.hok eb, dd2, ?_⟩
  have rv : L2.RelV ((valV nextK k).getD .non) (((atKey xs k).map (·.2)).getD .none) := (relO_at hP).getD rfl
  exact ⟨_, H2, I2.tok _, rv, q2⟩
end Wk
end
section
set_option Elab.async false
set_option linter.all false
set_option maxRecDepth 100000
/-! The walk: the phone. -/
namespace Wk
open PySem L2 He Mth Fl Wl Tx PyProof.Rows
theorem set_self (m : M) (i : Nat) : m.set i (m.pd i) = m := by
  unfold M.set
  have : (fun j => if j = i then m.pd i else m.pd j) = m.pd := by
    funext j
    by_cases z : j = i
    · rw [if_pos z, z]
    · rw [if_neg z]
  rw [this]
section
variable {K : PySem.W.Frag} {F : Fx} {B H : Hp} {L : Lay} {m : M} {i : Nat} {d : Pd}
theorem atPh (h : WL K F B L (m.set i d) H) (hi : i < F.n) : H (F.ph i) = some (.ins (ga K "PhoneCall") (L.dx (.ph i)) (phF d (L.ad (.sd i)) (L.ad (.hd i)))) := by
  have := h.atPh hi
  rw [set_same] at this
  exact this
theorem setPh (h : WL K F B L (m.set i d) H) (hi : i < F.n) {a : Nw} {r v : V} {b : Bool} (hv : NumV v) :
    WL K F B L (m.set i { d with now := a, rs := r, num := v, mkd := b }) (upd H (F.ph i) (.ins (ga K "PhoneCall") (L.dx (.ph i)) (phF { d with now := a, rs := r, num := v, mkd := b } (L.ad (.sd i)) (L.ad (.hd i))))) := by
  have := h.setPh hi (a := a) (r := r) (v := v) (b := b) hv
  rw [set_set, set_same] at this
  exact this
theorem numOf (h : WL K F B L (m.set i d) H) (hi : i < F.n) : NumV d.num := by
  have := (h.fine i hi).num
  rw [set_same] at this
  exact this
theorem newSd (h : WL K F B L (m.set i d) H) {H1 : Hp} (hi : i < F.n) {p : Addr} (s : Same H H1) (np : H p = none) (hp : H1 p = some (.lst [])) :
    WL K F B (L.mv (.sd i) p) (m.set i { d with said := [] }) (upd H1 (F.ph i) (.ins (ga K "PhoneCall") (L.dx (.ph i)) (phF d p (L.ad (.hd i))))) := by
  have := h.newSd hi s np hp
  rw [set_set, set_same] at this
  exact this
theorem newHd (h : WL K F B L (m.set i d) H) {H1 : Hp} (hi : i < F.n) {p : Addr} (s : Same H H1) (np : H p = none) (hp : H1 p = some (.lst [])) :
    WL K F B (L.mv (.hd i) p) (m.set i { d with heard := [] }) (upd H1 (F.ph i) (.ins (ga K "PhoneCall") (L.dx (.ph i)) (phF d (L.ad (.sd i)) p))) := by
  have := h.newHd hi s np hp
  rw [set_set, set_same] at this
  exact this
theorem setSd (h : WL K F B L (m.set i d) H) (hi : i < F.n) {ws : List V} (hw : ∀ v ∈ ws, WordV B v) : WL K F B L (m.set i { d with said := ws }) (upd H (L.ad (.sd i)) (.lst ws)) := by
  have := h.setSd hi hw
  rw [set_set, set_same] at this
  exact this
theorem setHd (h : WL K F B L (m.set i d) H) (hi : i < F.n) {ws : List V} (hw : ∀ v ∈ ws, WordV B v) : WL K F B L (m.set i { d with heard := ws }) (upd H (L.ad (.hd i)) (.lst ws)) := by
  have := h.setHd hi hw
  rw [set_set, set_same] at this
  exact this
theorem atHd (h : WL K F B L (m.set i d) H) (hi : i < F.n) : H (L.ad (.hd i)) = some (.lst d.heard) := by
  have := h.atHd hi
  rw [set_same] at this
  exact this
theorem atSd (h : WL K F B L (m.set i d) H) (hi : i < F.n) : H (L.ad (.sd i)) = some (.lst d.said) := by
  have := h.atSd hi
  rw [set_same] at this
  exact this
theorem heardOf (h : WL K F B L (m.set i d) H) (hi : i < F.n) : ∀ v ∈ d.heard, WordV B v := by
  have := (h.fine i hi).heard
  rw [set_same] at this
  exact this
theorem saidOf (h : WL K F B L (m.set i d) H) (hi : i < F.n) : ∀ v ∈ d.said, WordV B v := by
  have := (h.fine i hi).said
  rw [set_same] at this
  exact this
end
section
variable {P : Program} {w : World} {K : PySem.W.Frag} {mg : Str → Option Value} {base : Heap} {F : Fx}
def spState (K : PySem.W.Frag) (F : Fx) : Sp := fun vs H Q _ => ∃ (B : Hp) (m : M) (i : Nat), vs = [.ref (F.ph i)] ∧ Wd K F B m H ∧ i < F.n ∧ Q (.str (nwS (m.pd i).now)) H
theorem ok_PhoneCall_state (T : Txt K mg) : Has P w K mg base CX0 1 (gAd K "state") ["self"] (spState K F) := by
  obtain ⟨fd, Fn⟩ := T.fState
  refine ⟨fd, Fn.ok sc_PhoneCall_state (fun vs H Q E h => ?_) (fun cdv A outer s H vs Q E hr h => ?_), bi_PhoneCall_state Fn, Fn.kp⟩
  · obtain ⟨B, m, i, rfl, _⟩ := h
    rfl
  · obtain ⟨B, m, i, rfl, ⟨L, U⟩, hi, k⟩ := h
    refine ⟨_, PSs.nox (pss_one (ps_ret (pe_fld (pv 0) rfl))), ?_⟩
    exact ⟨_, rfl, F.ph i, _, _, _, _, rfl, U.atPh hi, cl_PhoneCall T, na_PhoneCall_now T, gPhoneCall_now, k⟩
def spSaid (K : PySem.W.Frag) (F : Fx) : Sp := fun vs H Q _ => ∃ (B : Hp) (m : M) (i : Nat), vs = [.ref (F.ph i)] ∧ Wd K F B m H ∧ i < F.n ∧ ∀ H' t, Same H H' → H' t = some (.tup (m.pd i).said) → Q (.ref t) H'
theorem ok_PhoneCall_said (T : Txt K mg) : Has P w K mg base CX0 1 (gAd K "said") ["self"] (spSaid K F) := by
  obtain ⟨fd, Fn⟩ := T.fSaid
  refine ⟨fd, Fn.ok sc_PhoneCall_said (fun vs H Q E h => ?_) (fun cdv A outer s H vs Q E hr h => ?_), bi_PhoneCall_said Fn, Fn.kp⟩
  · obtain ⟨B, m, i, rfl, _⟩ := h
    rfl
  · obtain ⟨B, m, i, rfl, ⟨L, U⟩, hi, k⟩ := h
    refine ⟨_, PSs.nox (pss_one (ps_ret (pe_callTy call_tuple_of (by rfl) (fr_tuple T) (by decide +kernel) (pa_cons (pe_fld (pv 0) rfl) pa_nil)))), ?_⟩
    exact ⟨_, rfl, F.ph i, _, _, _, _, rfl, U.atPh hi, cl_PhoneCall T, na_PhoneCall_words_said T, gPhoneCall_words_said, _, _, rfl, .inl ⟨SqL.of (U.atSd hi), fun l nl => k _ _ (same_upd nl) upd_same⟩⟩
def spHeard (K : PySem.W.Frag) (F : Fx) : Sp := fun vs H Q _ => ∃ (B : Hp) (m : M) (i : Nat), vs = [.ref (F.ph i)] ∧ Wd K F B m H ∧ i < F.n ∧ ∀ H' t, Same H H' → H' t = some (.tup (m.pd i).heard) → Q (.ref t) H'
theorem ok_PhoneCall_heard (T : Txt K mg) : Has P w K mg base CX0 1 (gAd K "heard") ["self"] (spHeard K F) := by
  obtain ⟨fd, Fn⟩ := T.fHeard
  refine ⟨fd, Fn.ok sc_PhoneCall_heard (fun vs H Q E h => ?_) (fun cdv A outer s H vs Q E hr h => ?_), bi_PhoneCall_heard Fn, Fn.kp⟩
  · obtain ⟨B, m, i, rfl, _⟩ := h
    rfl
  · obtain ⟨B, m, i, rfl, ⟨L, U⟩, hi, k⟩ := h
    refine ⟨_, PSs.nox (pss_one (ps_ret (pe_callTy call_tuple_of (by rfl) (fr_tuple T) (by decide +kernel) (pa_cons (pe_fld (pv 0) rfl) pa_nil)))), ?_⟩
    exact ⟨_, rfl, F.ph i, _, _, _, _, rfl, U.atPh hi, cl_PhoneCall T, na_PhoneCall_words_heard T, gPhoneCall_words_heard, _, _, rfl, .inl ⟨SqL.of (U.atHd hi), fun l nl => k _ _ (same_upd nl) upd_same⟩⟩
def spPbegin (K : PySem.W.Frag) (F : Fx) : Sp := fun vs H Q _ => ∃ (B : Hp) (m : M) (i : Nat) (a : Nw), vs = [.ref (F.ph i), .str (nwS a)] ∧ Wd K F B m H ∧ i < F.n ∧ ∀ H', Wd K F B (m.set i ((m.pd i).begin a)) H' → Q .non H'
theorem ok_PhoneCall_begin (T : Txt K mg) : Has P w K mg base CX0 1 (ma K (ga K "PhoneCall") "begin") ["self", "state"] (spPbegin K F) := by
  obtain ⟨fd, Fn⟩ := fd_PhoneCall_begin T
  refine ⟨fd, Fn.ok sc_PhoneCall_begin (fun vs H Q E h => ?_) (fun cdv A outer s H vs Q E hr h => ?_), bi_PhoneCall_begin Fn, Fn.kp⟩
  · obtain ⟨B, m, i, a, rfl, _⟩ := h
    rfl
  · obtain ⟨B, m, i, a, rfl, ⟨L, U⟩, hi, k⟩ := h
    refine ⟨_, PSs.nox (pss_cons (ps_fld (pv 0) (pv 1) rfl)
    (pss_cons (ps_fld (pv 0) pe_bl rfl)
    (pss_cons (ps_fld (pv 0) (pe_lst pa_nil) rfl)
    (pss_one (ps_fld (pv 0) (pe_lst pa_nil) rfl))))), ?_⟩
    rw [← set_self m i] at U
    generalize m.pd i = d at U k
    have hv := numOf U hi
    refine ⟨_, rfl, _, rfl, F.ph i, _, _, _, rfl, atPh U hi, cl_PhoneCall T, na_PhoneCall_now T, Wk.bl, ?_⟩
    have V1 := setPh U hi (a := a) (r := d.rs) (v := d.num) (b := d.mkd) hv
    rw [show putF "now" (V.str (nwS a)) (phF d (L.ad (.sd i)) (L.ad (.hd i))) = phF { d with now := a } (L.ad (.sd i)) (L.ad (.hd i)) from pPhoneCall_now]
    refine ⟨_, rfl, F.ph i, _, _, _, rfl, atPh V1 hi, cl_PhoneCall T, na_PhoneCall_marked T, Wk.bl, ?_⟩
    have V2 := setPh V1 hi (a := a) (r := d.rs) (v := d.num) (b := false) hv
    rw [show putF "marked" (V.bl false) (phF { d with now := a } (L.ad (.sd i)) (L.ad (.hd i))) = phF { d with now := a, mkd := false } (L.ad (.sd i)) (L.ad (.hd i)) from pPhoneCall_marked]
    refine ⟨Wk.bl, fun p np => ?_⟩
    have s3 := same_upd (o := .lst []) np
    refine ⟨_, rfl, F.ph i, _, _, _, rfl, s3 _ _ (atPh V2 hi), cl_PhoneCall T, na_PhoneCall_words_said T, Wk.bl, ?_⟩
    have V3 := newSd V2 hi s3 np upd_same
    rw [show putF "words_said" (V.ref p) (phF { d with now := a, rs := d.rs, num := d.num, mkd := false } (L.ad (.sd i)) (L.ad (.hd i))) = phF { d with now := a, mkd := false } p (L.ad (.hd i)) from pPhoneCall_words_said]
    refine ⟨Wk.bl, fun q nq => ?_⟩
    have s4 := same_upd (o := .lst []) nq
    refine ⟨_, rfl, F.ph i, _, _, _, rfl, s4 _ _ (atPh V3 hi), cl_PhoneCall T, na_PhoneCall_words_heard T, Wk.bl, ?_⟩
    have V4 := newHd V3 hi s4 nq upd_same
    rw [show putF "words_heard" (V.ref q) (phF { d with now := a, rs := d.rs, num := d.num, mkd := false, said := [] } ((L.mv (.sd i) p).ad (.sd i)) ((L.mv (.sd i) p).ad (.hd i))) = phF { d with now := a, mkd := false, said := [] } ((L.mv (.sd i) p).ad (.sd i)) q from pPhoneCall_words_heard]
    exact k _ ⟨_, V4⟩
def spDial (K : PySem.W.Frag) (F : Fx) : Sp := fun vs H Q _ => ∃ (B : Hp) (m : M) (i : Nat) (v : V), vs = [.ref (F.ph i), v] ∧ Wd K F B m H ∧ i < F.n ∧ (m.pd i).now = .idle ∧ NumV v ∧ ∀ H', Wd K F B (m.set i { (m.pd i).begin .starting with num := v }) H' → Q .non H'
theorem ok_PhoneCall_dial (T : Txt K mg) : Has P w K mg base CX0 2 (ma K (ga K "PhoneCall") "dial") ["self", "number"] (spDial K F) := by
  obtain ⟨fd, Fn⟩ := fd_PhoneCall_dial T
  obtain ⟨_, G_PhoneCall_begin, b_PhoneCall_begin, k_PhoneCall_begin⟩ := ok_PhoneCall_begin (P := P) (w := w) (base := base) (F := F) T
  refine ⟨fd, Fn.ok sc_PhoneCall_dial (fun vs H Q E h => ?_) (fun cdv A outer s H vs Q E hr h => ?_), bi_PhoneCall_dial Fn, Fn.kp⟩
  · obtain ⟨B, m, i, v, rfl, _⟩ := h
    rfl
  · obtain ⟨B, m, i, v, rfl, W, hi, hid, hv, k⟩ := h
    have W' := W
    obtain ⟨L, U⟩ := W'
    refine ⟨_, PSs.nox (pss_cons (ps_if (pt_cmpR op_ne (pe_fld (pv 0) rfl) pe_str (nomark _))
      (pss_one (ps_never))
      pss_nil)
    (pss_cons (ps_expr (pe_meth (pv 0) (cl_PhoneCall T) (me_PhoneCall_begin T) G_PhoneCall_begin (hr.mono (by decide)) b_PhoneCall_begin .nil pass0 (pa_cons pe_str pa_nil)))
    (pss_one (ps_fld (pv 0) (pv 1) rfl)))), ?_⟩
    refine ⟨_, rfl, F.ph i, _, _, _, _, rfl, U.atPh hi, cl_PhoneCall T, na_PhoneCall_now T, gPhoneCall_now, rfl, _, rfl, nF (by rw [hid]; rfl) ?_⟩
    refine ⟨_, rfl, F.ph i, _, _, rfl, U.atPh hi, mPhoneCall_begin, B, m, i, .starting, rfl, W, hi, fun H1 W1 => ?_⟩
    obtain ⟨L1, V1⟩ := W1
    refine ⟨_, rfl, _, rfl, F.ph i, _, _, _, rfl, atPh V1 hi, cl_PhoneCall T, na_PhoneCall_number T, Wk.bl, ?_⟩
    have V2 := setPh V1 hi (a := .starting) (r := (m.pd i).rs) (v := v) (b := false) hv
    rw [show putF "number" v (phF ((m.pd i).begin .starting) (L1.ad (.sd i)) (L1.ad (.hd i))) = phF { (m.pd i).begin .starting with num := v } (L1.ad (.sd i)) (L1.ad (.hd i)) from pPhoneCall_number]
    exact k _ ⟨_, V2⟩
def spTdisc (K : PySem.W.Frag) (F : Fx) : Sp := fun vs H Q _ => ∃ (B : Hp) (m : M) (i : Nat) (c : V), vs = [.ref (F.ph i), c] ∧ Wd K F B m H ∧ i < F.n ∧ ∀ H', Wd K F B (m.set i (if (m.pd i).now ≠ .idle ∧ (m.pd i).now ≠ .clearing then { m.pd i with now := .idle, rs := c } else m.pd i)) H' → Q .non H'
theorem ok_PhoneCall_take_disconnect (T : Txt K mg) : Has P w K mg base CX0 1 (ma K (ga K "PhoneCall") "take_disconnect") ["self", "cause"] (spTdisc K F) := by
  obtain ⟨fd, Fn⟩ := fd_PhoneCall_take_disconnect T
  refine ⟨fd, Fn.ok sc_PhoneCall_take_disconnect (fun vs H Q E h => ?_) (fun cdv A outer s H vs Q E hr h => ?_), bi_PhoneCall_take_disconnect Fn, Fn.kp⟩
  · obtain ⟨B, m, i, c, rfl, _⟩ := h
    rfl
  · obtain ⟨B, m, i, c, rfl, ⟨L, U⟩, hi, k⟩ := h
    refine ⟨_, PSs.nox (pss_one (ps_if (PW.pt (pw_and (pt_cmpR op_ne (pe_fld (pv 0) rfl) pe_str (nomark _)) (pw_and1 (pt_cmpR op_ne (pe_fld (pv 0) rfl) pe_str (nomark _)))))
      (pss_cons (ps_fld (pv 0) pe_str rfl)
      (pss_one (ps_fld (pv 0) (pv 1) rfl)))
      pss_nil)), ?_⟩
    rw [← set_self m i] at U
    generalize m.pd i = d at U k
    have hv := numOf U hi
    refine ⟨_, rfl, F.ph i, _, _, _, _, rfl, atPh U hi, cl_PhoneCall T, na_PhoneCall_now T, gPhoneCall_now, rfl, _, rfl, ?_⟩
    rw [show (!decide (V.str (nwS d.now) = V.str "idle")) = decide (d.now ≠ .idle) from nw_ne d.now .idle]
    refine tC (fun e1 => ?_) fun e1 => ?_
    · refine ⟨_, rfl, F.ph i, _, _, _, _, rfl, atPh U hi, cl_PhoneCall T, na_PhoneCall_now T, gPhoneCall_now, rfl, _, rfl, ?_⟩
      rw [show (!decide (V.str (nwS d.now) = V.str "clearing")) = decide (d.now ≠ .clearing) from nw_ne d.now .clearing]
      refine tC (fun e2 => ?_) fun e2 => ?_
      · rw [if_pos ⟨e1, e2⟩] at k
        refine ⟨_, rfl, F.ph i, _, _, _, rfl, atPh U hi, cl_PhoneCall T, na_PhoneCall_now T, Wk.bl, ?_⟩
        have V1 := setPh U hi (a := .idle) (r := d.rs) (v := d.num) (b := d.mkd) hv
        rw [show putF "now" (V.str "idle") (phF d (L.ad (.sd i)) (L.ad (.hd i))) = phF { d with now := .idle } (L.ad (.sd i)) (L.ad (.hd i)) from pPhoneCall_now]
        refine ⟨_, rfl, _, rfl, F.ph i, _, _, _, rfl, atPh V1 hi, cl_PhoneCall T, na_PhoneCall_reason T, Wk.bl, ?_⟩
        have V2 := setPh V1 hi (a := .idle) (r := c) (v := d.num) (b := d.mkd) hv
        rw [show putF "reason" c (phF { d with now := .idle } (L.ad (.sd i)) (L.ad (.hd i))) = phF { d with now := .idle, rs := c } (L.ad (.sd i)) (L.ad (.hd i)) from pPhoneCall_reason]
        exact k _ ⟨_, V2⟩
      · rw [if_neg fun z => e2 z.2] at k
        exact k _ ⟨_, U⟩
    · rw [if_neg fun z => e1 z.1] at k
      exact k _ ⟨_, U⟩
def spPend (K : PySem.W.Frag) (F : Fx) : Sp := fun vs H Q _ => ∃ (B : Hp) (m : M) (i : Nat) (c : V), vs = [.ref (F.ph i), c] ∧ Wd K F B m H ∧ i < F.n ∧ ∀ H', Wd K F B (m.set i { m.pd i with now := .idle, rs := if c ≠ .non ∧ (m.pd i).now ≠ .idle ∧ (m.pd i).now ≠ .clearing then c else (m.pd i).rs }) H' → Q .non H'
theorem ok_PhoneCall_end (T : Txt K mg) : Has P w K mg base CX0 1 (ma K (ga K "PhoneCall") "end") ["self", "cause"] (spPend K F) := by
  obtain ⟨fd, Fn⟩ := fd_PhoneCall_end T
  refine ⟨fd, Fn.ok sc_PhoneCall_end (fun vs H Q E h => ?_) (fun cdv A outer s H vs Q E hr h => ?_), bi_PhoneCall_end Fn, Fn.kp⟩
  · obtain ⟨B, m, i, c, rfl, _⟩ := h
    rfl
  · obtain ⟨B, m, i, c, rfl, ⟨L, U⟩, hi, k⟩ := h
    refine ⟨_, PSs.nox (pss_cons (ps_if (PW.pt (pw_and (pt_cmpR op_notN (pv 1) pe_non (nomark _)) (pw_and (pt_cmpR op_ne (pe_fld (pv 0) rfl) pe_str (nomark _)) (pw_and1 (pt_cmpR op_ne (pe_fld (pv 0) rfl) pe_str (nomark _))))))
      (pss_one (ps_fld (pv 0) (pv 1) rfl))
      pss_nil)
    (pss_one (ps_fld (pv 0) pe_str rfl))), ?_⟩
    rw [← set_self m i] at U
    generalize m.pd i = d at U k
    have hv := numOf U hi
    have last : ∀ {H1 : Hp} {L1 : Lay} (r : V), WL K F B L1 (m.set i { d with rs := r }) H1 → r = (if c ≠ .non ∧ d.now ≠ .idle ∧ d.now ≠ .clearing then c else d.rs) →
        Q .non (upd H1 (F.ph i) (.ins (ga K "PhoneCall") (L1.dx (.ph i)) (putF "now" (.str "idle") (phF { d with rs := r } (L1.ad (.sd i)) (L1.ad (.hd i)))))) := fun {H1 L1} r V1 er => by
      have V2 := setPh V1 hi (a := .idle) (r := r) (v := d.num) (b := d.mkd) hv
      rw [show putF "now" (V.str "idle") (phF { d with rs := r } (L1.ad (.sd i)) (L1.ad (.hd i))) = phF { d with now := .idle, rs := r } (L1.ad (.sd i)) (L1.ad (.hd i)) from pPhoneCall_now]
      rw [← er] at k
      exact k _ ⟨_, V2⟩
    have skip : ¬ (c ≠ .non ∧ d.now ≠ .idle ∧ d.now ≠ .clearing) → ∃ a C dx fs, V.ref (F.ph i) = .ref a ∧ H a = some (.ins C dx fs) ∧ Cls K C ∧ NoAttr K C "now" ∧ fs.length < 1000 ∧ Q .non (upd H a (.ins C dx (putF "now" (.str "idle") fs))) := fun ne =>
      ⟨F.ph i, _, _, _, rfl, atPh U hi, cl_PhoneCall T, na_PhoneCall_now T, Wk.bl, last d.rs U (by rw [if_neg ne])⟩
    refine ⟨_, rfl, rfl, _, rfl, ?_⟩
    refine nC (fun e0 => ?_) fun e0 => ?_
    · refine ⟨_, rfl, F.ph i, _, _, _, _, rfl, atPh U hi, cl_PhoneCall T, na_PhoneCall_now T, gPhoneCall_now, rfl, _, rfl, ?_⟩
      rw [show (!decide (V.str (nwS d.now) = V.str "idle")) = decide (d.now ≠ .idle) from nw_ne d.now .idle]
      refine tC (fun e1 => ?_) fun e1 => ?_
      · refine ⟨_, rfl, F.ph i, _, _, _, _, rfl, atPh U hi, cl_PhoneCall T, na_PhoneCall_now T, gPhoneCall_now, rfl, _, rfl, ?_⟩
        rw [show (!decide (V.str (nwS d.now) = V.str "clearing")) = decide (d.now ≠ .clearing) from nw_ne d.now .clearing]
        refine tC (fun e2 => ?_) fun e2 => ?_
        · refine ⟨_, rfl, _, rfl, F.ph i, _, _, _, rfl, atPh U hi, cl_PhoneCall T, na_PhoneCall_reason T, Wk.bl, ?_⟩
          have V1 := setPh U hi (a := d.now) (r := c) (v := d.num) (b := d.mkd) hv
          rw [show putF "reason" c (phF d (L.ad (.sd i)) (L.ad (.hd i))) = phF { d with rs := c } (L.ad (.sd i)) (L.ad (.hd i)) from pPhoneCall_reason]
          exact ⟨_, rfl, F.ph i, _, _, _, rfl, atPh V1 hi, cl_PhoneCall T, na_PhoneCall_now T, Wk.bl, last c V1 (by rw [if_pos ⟨e0, e1, e2⟩])⟩
        · obtain ⟨a, C, dx, fs, y⟩ := skip fun z => e2 z.2.2
          exact ⟨_, rfl, a, C, dx, fs, y⟩
      · obtain ⟨a, C, dx, fs, y⟩ := skip fun z => e1 z.2.1
        exact ⟨_, rfl, a, C, dx, fs, y⟩
    · obtain ⟨a, C, dx, fs, y⟩ := skip fun z => z.1 e0
      exact ⟨_, rfl, a, C, dx, fs, y⟩
end
end Wk
end
section
set_option Elab.async false
set_option linter.all false
set_option maxRecDepth 100000
/-! The walk: the phone takes a message; words, hanging up. -/
namespace Wk
open PySem L2 He Mth Fl Wl Tx PyProof.Rows
/-- the state behind a message that moves -/
def nx : Nw → Msg → Option Nw
  | .starting, .proceeding => some .looking
  | .looking, .alerting => some .alerting
  | .looking, .connect => some .active
  | .alerting, .connect => some .active
  | .idle, .setup _ => some .ringing
  | _, _ => none
def isMv : Msg → Bool
  | .setup _ => true
  | .proceeding => true
  | .alerting => true
  | .connect => true
  | _ => false
def optN : Option Nw → V
  | some a => .str (nwS a)
  | none => .non
theorem next_val (a : Nw) (x : Msg) (h : isMv x = true) : (valV nextK [.inr (nwS a), .inr (kindS x)]).getD .non = optN (nx a x) := by
  cases x with
  | setup v => cases a <;> kernel_rfl
  | proceeding => cases a <;> kernel_rfl
  | alerting => cases a <;> kernel_rfl
  | connect => cases a <;> kernel_rfl
  | _ => cases h
theorem move_none {d : Pd} {x : Msg} (hx : isMv x = true) (h : nx d.now x = none) : d.move x = (d, []) := by
  unfold Pd.move
  cases en : d.now <;> rw [en] at h <;> cases x <;> first | rfl | cases h | cases hx
theorem move_ring {d : Pd} {x : Msg} (h : nx d.now x = some .ringing) : d.move x = (d.begin .ringing, [.alerting]) := by
  unfold Pd.move
  cases en : d.now <;> rw [en] at h <;> cases x <;> first | rfl | cases h
theorem move_to {d : Pd} {x : Msg} {a : Nw} (h : nx d.now x = some a) (ne : a ≠ .ringing) : d.move x = ({ d with now := a }, if a = .active then [.cdone] else []) := by
  unfold Pd.move
  cases en : d.now <;> rw [en] at h <;> cases x <;> first | (cases h; done) | (cases h; rfl) | (cases h; exact absurd rfl ne)
theorem selfW {K : PySem.W.Frag} {F : Fx} {B H : Hp} {L : Lay} {m : M} (h : WL K F B L m H) (i : Nat) : WL K F B L (m.set i (m.pd i)) H := by
  rw [set_self]
  exact h
section
variable {P : Program} {w : World} {K : PySem.W.Frag} {mg : Str → Option Value} {base : Heap} {F : Fx}
/-- the answers: a new list -/
def AnsAt (B : Hp) (l : Addr) (xs : List Msg) : Prop := ∃ as : List Addr, B l = some (.lst (as.map V.ref)) ∧ QAt B as xs
def spMove (K : PySem.W.Frag) (F : Fx) : Sp := fun vs H Q _ => ∃ (B : Hp) (m : M) (i : Nat) (x : Msg), vs = [.ref (F.ph i), .str (kindS x)] ∧ isMv x = true ∧ Wd K F B m H ∧ i < F.n ∧ ∀ B' H' l, Same B B' → Wd K F B' (m.set i ((m.pd i).move x).1) H' → AnsAt B' l ((m.pd i).move x).2 → Q (.ref l) H'
theorem ans_nil {B H : Hp} {m : M} {Q : VK} (W : Wd K F B m H) (k : ∀ B' H' l, Same B B' → Wd K F B' m H' → AnsAt B' l [] → Q (.ref l) H') : ∀ l, H l = none → Q (.ref l) (upd H l (.lst [])) := fun l nl => by
  obtain ⟨B1, s1, W1, h1⟩ := W.imm nl (.lst [])
  exact k _ _ _ s1 W1 ⟨[], h1, .nil⟩
theorem ans_one {B H : Hp} {m : M} {Q : VK} {x : Msg} (W : Wd K F B m H) (hx : MsgFine B x) (k : ∀ B' H' l, Same B B' → Wd K F B' m H' → AnsAt B' l [x] → Q (.ref l) H') : ∀ a, H a = none → ([V.ref a].length ≤ sizeLine ∧ ∀ l, upd H a (.tup (msgV x)) l = none → Q (.ref l) (upd (upd H a (.tup (msgV x))) l (.lst [.ref a]))) := fun a na => by
  obtain ⟨B1, s1, W1, h1⟩ := W.imm na (.tup (msgV x))
  refine ⟨Wk.bl, fun l nl => ?_⟩
  obtain ⟨B2, s2, W2, h2⟩ := W1.imm nl (.lst [.ref a])
  exact k _ _ _ (s1.trans s2) W2 ⟨[a], h2, .cons ⟨s2 _ _ h1, hx.mono (s1.trans s2)⟩ .nil⟩
theorem ok_PhoneCall_move (N : NextIn P w K (ga K "NEXT")) (T : Txt K mg) : Has P w K mg base CX0 2 (ma K (ga K "PhoneCall") "move") ["self", "kind"] (spMove K F) := by
  obtain ⟨fd, Fn⟩ := fd_PhoneCall_move T
  obtain ⟨_, G_PhoneCall_begin, b_PhoneCall_begin, k_PhoneCall_begin⟩ := ok_PhoneCall_begin (P := P) (w := w) (base := base) (F := F) T
  refine ⟨fd, Fn.ok sc_PhoneCall_move (fun vs H Q E h => ?_) (fun cdv A outer s H vs Q E hr h => ?_), bi_PhoneCall_move Fn, Fn.kp⟩
  · obtain ⟨B, m, i, x, rfl, _⟩ := h
    rfl
  · obtain ⟨B, m, i, x, rfl, hx, W, hi, k⟩ := h
    have W' := W
    obtain ⟨L, U⟩ := W'
    refine ⟨_, PSs.nox (pss_cons (ps_set (i := 2) sc_PhoneCall_move.nd rfl (Or.inl rfl) (pe_nget N (hu_of hr) (pe_glob (v := .ref (ga K "NEXT")) rfl (mg_NEXT T) rfl) (pe_tup (pa_cons (pe_fld (pv 0) rfl) (pa_cons (pv 1) pa_nil))) ⟨rfl, rfl, rfl, rfl⟩))
    (pss_cons (ps_if (pt_cmpR op_isN (pv 2) pe_non (nomark _))
      (pss_one (ps_ret (pe_lst pa_nil)))
      pss_nil)
    (pss_cons (ps_if (pt_cmpR op_eq (pv 2) pe_str (nomark _))
      (pss_cons (ps_expr (pe_meth (pv 0) (cl_PhoneCall T) (me_PhoneCall_begin T) G_PhoneCall_begin (hr.mono (by decide)) b_PhoneCall_begin .nil pass0 (pa_cons (pv 2) pa_nil)))
      (pss_one (ps_ret (pe_lst (pa_cons (pe_tup (pa_cons pe_str pa_nil)) pa_nil)))))
      pss_nil)
    (pss_cons (ps_fld (pv 0) (pv 2) rfl)
    (pss_cons (ps_if (pt_cmpR op_eq (pv 2) pe_str (nomark _))
      (pss_one (ps_ret (pe_lst (pa_cons (pe_tup (pa_cons pe_str pa_nil)) pa_nil))))
      pss_nil)
    (pss_one (ps_ret (pe_lst pa_nil)))))))), ?_⟩
    refine ⟨_, rfl, F.ph i, _, _, _, _, rfl, U.atPh hi, cl_PhoneCall T, na_PhoneCall_now T, gPhoneCall_now, _, rfl, Wk.bl, fun p np => ?_⟩
    refine ⟨p, [.inr (nwS (m.pd i).now), .inr (kindS x)], rfl, upd_same, ?_⟩
    rw [next_val _ _ hx]
    obtain ⟨B1, s1, W1, h1⟩ := W.imm np (.tup [.str (nwS (m.pd i).now), .str (kindS x)])
    cases en : nx (m.pd i).now x with
    | none =>
      rw [move_none hx en, set_self] at k
      exact ⟨_, rfl, rfl, _, rfl, tT rfl ⟨Wk.bl, ans_nil W1 fun B' H' l s2 W2 hA => k B' H' l (s1.trans s2) W2 hA⟩⟩
    | some a =>
      refine ⟨_, rfl, rfl, _, rfl, tF (fun q => nomatch q) ?_⟩
      refine ⟨_, rfl, rfl, _, rfl, ?_⟩
      show if decide (V.str (nwS a) = V.str "ringing") = true then _ else _
      rw [show decide (V.str (nwS a) = V.str "ringing") = decide (a = .ringing) from nw_eq a .ringing]
      refine tC (fun e1 => ?_) fun e1 => ?_
      · subst e1
        rw [move_ring en] at k
        have W1' := W1
        obtain ⟨L1, U1⟩ := W1'
        refine ⟨_, rfl, F.ph i, _, _, rfl, U1.atPh hi, mPhoneCall_begin, _, rfl, B1, m, i, .ringing, rfl, W1, hi, fun H2 W2 => ?_⟩
        refine ⟨Wk.bl, ans_one (x := .alerting) W2 trivial fun B' H' l s2 W3 hA => k B' H' l (s1.trans s2) W3 hA⟩
      · rw [move_to en e1] at k
        obtain ⟨L1, U1⟩ := W1
        replace U1 := selfW U1 i
        have hv := numOf U1 hi
        refine ⟨_, rfl, _, rfl, F.ph i, _, _, _, rfl, atPh U1 hi, cl_PhoneCall T, na_PhoneCall_now T, Wk.bl, ?_⟩
        have U2 := setPh U1 hi (a := a) (r := (m.pd i).rs) (v := (m.pd i).num) (b := (m.pd i).mkd) hv
        rw [show putF "now" (optN (some a)) (phF (m.pd i) (L1.ad (.sd i)) (L1.ad (.hd i))) = phF { m.pd i with now := a } (L1.ad (.sd i)) (L1.ad (.hd i)) from pPhoneCall_now]
        have W2 : Wd K F B1 _ _ := ⟨_, U2⟩
        refine ⟨_, rfl, rfl, _, rfl, ?_⟩
        show if decide (V.str (nwS a) = V.str "active") = true then _ else _
        rw [show decide (V.str (nwS a) = V.str "active") = decide (a = .active) from nw_eq a .active]
        refine tC (fun e2 => ?_) fun e2 => ?_
        · rw [if_pos e2] at k
          refine ⟨Wk.bl, ans_one (x := .cdone) W2 trivial fun B' H' l s2 W3 hA => k B' H' l (s1.trans s2) W3 hA⟩
        · rw [if_neg e2] at k
          exact ⟨Wk.bl, ans_nil W2 fun B' H' l s2 W3 hA => k B' H' l (s1.trans s2) W3 hA⟩
/-- kinds are told apart -/
def kI : Msg → Fin 9
  | .setup _ => 0
  | .proceeding => 1
  | .alerting => 2
  | .connect => 3
  | .cdone => 4
  | .disc _ => 5
  | .word _ => 6
  | .sacc => 7
  | .rel => 8
def kS : Fin 9 → Str := fun i => (["setup", "proceeding", "alerting", "connect", "connect done", "disconnect", "word", "service accept", "release"] : List Str).getD i.val ""
theorem kS_inj : ∀ i j : Fin 9, kS i = kS j → i = j := by decide +kernel
theorem kind_kS (x : Msg) : kindS x = kS (kI x) := by
  cases x <;> rfl
theorem kind_of {x y : Msg} (h : kindS x = kindS y) : kI x = kI y := kS_inj _ _ (by rw [← kind_kS, ← kind_kS, h])
theorem rest_at {x : Msg} {p : V} {r : List V} (h : restV x = p :: r) : atI (msgV x) 1 = some p := by
  have : (msgV x)[1]? = some p := by
    unfold msgV
    rw [h]
    rfl
  exact atI_nat (j := 1) this
def spTake (K : PySem.W.Frag) (F : Fx) : Sp := fun vs H Q _ => ∃ (B : Hp) (m : M) (i : Nat) (a : Addr) (x : Msg), vs = [.ref (F.ph i), .ref a] ∧ MsgAt B a x ∧ x ≠ .rel ∧ Wd K F B m H ∧ i < F.n ∧ (m.pd i).heard.length ≤ 1000000 ∧ ∀ B' H' l, Same B B' → Wd K F B' (m.set i ((m.pd i).take x).1) H' → AnsAt B' l ((m.pd i).take x).2 → Q (.ref l) H'
theorem ok_PhoneCall_take (N : NextIn P w K (ga K "NEXT")) (T : Txt K mg) : Has P w K mg base CX0 3 (ma K (ga K "PhoneCall") "take") ["self", "message"] (spTake K F) := by
  obtain ⟨fd, Fn⟩ := fd_PhoneCall_take T
  obtain ⟨_, G_PhoneCall_take_disconnect, b_PhoneCall_take_disconnect, k_PhoneCall_take_disconnect⟩ := ok_PhoneCall_take_disconnect (P := P) (w := w) (base := base) (F := F) T
  obtain ⟨_, G_PhoneCall_move, b_PhoneCall_move, k_PhoneCall_move⟩ := ok_PhoneCall_move (base := base) (F := F) N T
  refine ⟨fd, Fn.ok sc_PhoneCall_take (fun vs H Q E h => ?_) (fun cdv A outer s H vs Q E hr h => ?_), bi_PhoneCall_take Fn, Fn.kp⟩
  · obtain ⟨B, m, i, a, x, rfl, _⟩ := h
    rfl
  · obtain ⟨B, m, i, a, x, rfl, hM, hx, W, hi, hl, k⟩ := h
    have W' := W
    obtain ⟨L, U⟩ := W'
    have hMH := U.same _ _ hM.at_
    refine ⟨_, PSs.nox (pss_cons (ps_set (i := 2) sc_PhoneCall_take.nd rfl (Or.inl rfl) (pe_ix ix_tup (pv 1) pe_int (fun _ _ => rfl)))
    (pss_cons (ps_if (pt_cmpR op_eq (pv 2) pe_str (nomark _))
      (pss_cons (ps_expr (pe_meth (pv 0) (cl_PhoneCall T) (me_PhoneCall_take_disconnect T) G_PhoneCall_take_disconnect (hr.mono (by decide)) b_PhoneCall_take_disconnect .nil pass0 (pa_cons (pe_ix ix_tup (pv 1) pe_int (fun _ _ => rfl)) pa_nil)))
      (pss_one (ps_ret (pe_lst pa_nil))))
      pss_nil)
    (pss_cons (ps_if (pt_cmpR op_eq (pv 2) pe_str (nomark _))
      (pss_cons (ps_if (pt_cmpR op_eq (pe_fld (pv 0) rfl) pe_str (nomark _))
        (pss_one (ps_expr (pe_bm PySem.F.plainAttrs_list PySem.F.slot_list_append PySem.F.type_list_append mt_append (pe_fld (pv 0) rfl) (pa_cons (pe_ix ix_tup (pv 1) pe_int (fun _ _ => rfl)) pa_nil))))
        pss_nil)
      (pss_one (ps_ret (pe_lst pa_nil))))
      pss_nil)
    (pss_cons (ps_if (pt_cmpR op_eq (pv 2) pe_str (nomark _))
      (pss_cons (ps_if (PW.pt (pw_or (pt_cmpR op_ne (pe_fld (pv 0) rfl) pe_str (nomark _)) (pw_or1 (pt_val (pe_fld (pv 0) rfl)))))
        (pss_one (ps_ret (pe_lst pa_nil)))
        pss_nil)
      (pss_cons (ps_fld (pv 0) pe_bl rfl)
      (pss_one (ps_ret (pe_lst (pa_cons (pe_tup (pa_cons pe_str (pa_cons (pe_fld (pv 0) rfl) pa_nil))) pa_nil))))))
      pss_nil)
    (pss_cons (ps_if (pt_cmpR op_eq (pv 2) pe_str (nomark _))
      (pss_cons (ps_if (PW.pt (pw_and (pt_cmpR op_eq (pe_fld (pv 0) rfl) pe_str (nomark _)) (pw_and1 (pt_val (pe_fld (pv 0) rfl)))))
        (pss_one (ps_fld (pv 0) pe_str rfl))
        pss_nil)
      (pss_one (ps_ret (pe_lst pa_nil))))
      pss_nil)
    (pss_one (ps_ret (pe_meth (pv 0) (cl_PhoneCall T) (me_PhoneCall_move T) G_PhoneCall_move (hr.mono (by decide)) b_PhoneCall_move .nil pass0 (pa_cons (pv 2) pa_nil))))))))), ?_⟩
    refine ⟨_, rfl, a, _, _, .str (kindS x), rfl, rfl, SqT.of hMH, atI_nat (j := 0) rfl, ?_⟩
    refine ⟨_, rfl, rfl, _, rfl, ?_⟩
    by_cases z1 : ∃ c, x = .disc c
    · obtain ⟨c, rfl⟩ := z1
      refine tT rfl ?_
      refine ⟨_, rfl, F.ph i, _, _, rfl, U.atPh hi, mPhoneCall_take_disconnect, _, rfl, a, _, _, c, rfl, rfl, SqT.of hMH, rest_at rfl, ?_⟩
      refine ⟨B, m, i, c, rfl, W, hi, fun H1 W1 => ?_⟩
      exact ⟨Wk.bl, ans_nil W1 k⟩
    refine tF (fun q => z1 ?_) ?_
    · have q := kind_of (x := x) (y := .disc .non) (str_inj q)
      cases x <;> first | exact ⟨_, rfl⟩ | (simp [kI] at q; done)
    refine ⟨_, rfl, rfl, _, rfl, ?_⟩
    by_cases z2 : ∃ c, x = .word c
    · obtain ⟨v, rfl⟩ := z2
      refine tT rfl ?_
      refine ⟨_, rfl, F.ph i, _, _, _, _, rfl, U.atPh hi, cl_PhoneCall T, na_PhoneCall_now T, gPhoneCall_now, rfl, _, rfl, ?_⟩
      rw [show decide (V.str (nwS (m.pd i).now) = V.str "active") = decide ((m.pd i).now = .active) from nw_eq _ .active]
      refine tC (fun e => ?_) fun e => ?_
      · refine ⟨_, rfl, F.ph i, _, _, _, _, rfl, U.atPh hi, cl_PhoneCall T, na_PhoneCall_words_heard T, gPhoneCall_words_heard, .inl ⟨rfl, _, SqL.of (U.atHd hi)⟩, _, rfl, a, _, _, v, rfl, rfl, SqT.of hMH, rest_at rfl, ?_⟩
        refine ⟨_, _, _, rfl, rfl, U.atHd hi, small1 (N := 1000000) hl Wk.bl, ?_⟩
        have U1 := U.setHd hi (ws := (m.pd i).heard ++ [v]) fun u hu => by
          rcases List.mem_append.mp hu with q | q
          · exact (U.fine i hi).heard u q
          · rw [List.mem_singleton.mp q]
            exact hM.fine
        have ek : (m.pd i).take (.word v) = ({ m.pd i with heard := (m.pd i).heard ++ [v] }, []) := by
          unfold Pd.take
          dsimp only
          rw [if_pos e]
        rw [ek] at k
        exact ⟨Wk.bl, ans_nil ⟨_, U1⟩ k⟩
      · have ek : (m.pd i).take (.word v) = (m.pd i, []) := by
          unfold Pd.take
          dsimp only
          rw [if_neg e]
        rw [ek, set_self] at k
        exact ⟨Wk.bl, ans_nil W k⟩
    refine tF (fun q => z2 ?_) ?_
    · have q := kind_of (x := x) (y := .word .non) (str_inj q)
      cases x <;> first | exact ⟨_, rfl⟩ | (simp [kI] at q; done)
    refine ⟨_, rfl, rfl, _, rfl, ?_⟩
    by_cases z3 : x = .sacc
    · subst z3
      refine tT rfl ?_
      refine ⟨_, rfl, F.ph i, _, _, _, _, rfl, U.atPh hi, cl_PhoneCall T, na_PhoneCall_now T, gPhoneCall_now, rfl, _, rfl, ?_⟩
      rw [show (!decide (V.str (nwS (m.pd i).now) = V.str "starting")) = decide ((m.pd i).now ≠ .starting) from nw_ne _ .starting]
      have no : ((m.pd i).now ≠ .starting ∨ (m.pd i).mkd = true) → ∀ l, H l = none → Q (.ref l) (upd H l (.lst [])) := fun z => by
        have ek : (m.pd i).take .sacc = (m.pd i, []) := by
          unfold Pd.take
          dsimp only
          rw [if_pos z]
        rw [ek, set_self] at k
        exact ans_nil W k
      refine tC (fun e1 => ?_) fun e1 => ?_
      · exact ⟨Wk.bl, no (.inl e1)⟩
      · refine ⟨_, rfl, F.ph i, _, _, _, _, rfl, U.atPh hi, cl_PhoneCall T, na_PhoneCall_marked T, gPhoneCall_marked, _, rfl, ?_⟩
        cases em : (m.pd i).mkd with
        | true => exact ⟨Wk.bl, no (.inr em)⟩
        | false =>
          have ek : (m.pd i).take .sacc = ({ m.pd i with mkd := true }, [.setup (m.pd i).num]) := by
            unfold Pd.take
            dsimp only
            rw [if_neg fun z => z.elim (fun y => e1 y) fun y => by rw [em] at y; cases y]
          rw [ek] at k
          have hv := (U.fine i hi).num
          replace U := selfW U i
          refine ⟨_, rfl, F.ph i, _, _, _, rfl, atPh U hi, cl_PhoneCall T, na_PhoneCall_marked T, Wk.bl, ?_⟩
          have U1 := setPh U hi (a := (m.pd i).now) (r := (m.pd i).rs) (v := (m.pd i).num) (b := true) hv
          rw [show putF "marked" (V.bl true) (phF (m.pd i) (L.ad (.sd i)) (L.ad (.hd i))) = phF { m.pd i with mkd := true } (L.ad (.sd i)) (L.ad (.hd i)) from pPhoneCall_marked]
          exact ⟨_, rfl, F.ph i, _, _, _, _, rfl, atPh U1 hi, cl_PhoneCall T, na_PhoneCall_number T, gPhoneCall_number, Wk.bl, ans_one (x := .setup (m.pd i).num) ⟨_, U1⟩ hv k⟩
    refine tF (fun q => z3 ?_) ?_
    · have q := kind_of (x := x) (y := .sacc) (str_inj q)
      cases x <;> first | rfl | (simp [kI] at q; done)
    refine ⟨_, rfl, rfl, _, rfl, ?_⟩
    by_cases z4 : x = .cdone
    · subst z4
      refine tT rfl ?_
      have no : ¬ ((m.pd i).now = .ringing ∧ (m.pd i).mkd = true) → ∀ l, H l = none → Q (.ref l) (upd H l (.lst [])) := fun z => by
        have ek : (m.pd i).take .cdone = (m.pd i, []) := by
          unfold Pd.take
          dsimp only
          rw [if_neg z]
        rw [ek, set_self] at k
        exact ans_nil W k
      refine ⟨_, rfl, F.ph i, _, _, _, _, rfl, U.atPh hi, cl_PhoneCall T, na_PhoneCall_now T, gPhoneCall_now, rfl, _, rfl, ?_⟩
      rw [show decide (V.str (nwS (m.pd i).now) = V.str "ringing") = decide ((m.pd i).now = .ringing) from nw_eq _ .ringing]
      refine tC (fun e1 => ?_) fun e1 => ?_
      · refine ⟨_, rfl, F.ph i, _, _, _, _, rfl, U.atPh hi, cl_PhoneCall T, na_PhoneCall_marked T, gPhoneCall_marked, _, rfl, ?_⟩
        cases em : (m.pd i).mkd with
        | false => exact ⟨Wk.bl, no fun z => by rw [em] at z; cases z.2⟩
        | true =>
          have ek : (m.pd i).take .cdone = ({ m.pd i with now := .active }, []) := by
            unfold Pd.take
            dsimp only
            rw [if_pos ⟨e1, em⟩]
          rw [ek] at k
          have hv := (U.fine i hi).num
          replace U := selfW U i
          refine ⟨_, rfl, F.ph i, _, _, _, rfl, atPh U hi, cl_PhoneCall T, na_PhoneCall_now T, Wk.bl, ?_⟩
          have U1 := setPh U hi (a := .active) (r := (m.pd i).rs) (v := (m.pd i).num) (b := (m.pd i).mkd) hv
          rw [show putF "now" (V.str "active") (phF (m.pd i) (L.ad (.sd i)) (L.ad (.hd i))) = phF { m.pd i with now := .active } (L.ad (.sd i)) (L.ad (.hd i)) from pPhoneCall_now]
          exact ⟨Wk.bl, ans_nil ⟨_, U1⟩ k⟩
      · exact ⟨Wk.bl, no fun z => e1 z.1⟩
    refine tF (fun q => z4 ?_) ?_
    · have q := kind_of (x := x) (y := .cdone) (str_inj q)
      cases x <;> first | rfl | (simp [kI] at q; done)
    have hmv : isMv x = true := by
      cases x with
      | disc c => exact absurd ⟨c, rfl⟩ z1
      | word c => exact absurd ⟨c, rfl⟩ z2
      | sacc => exact absurd rfl z3
      | cdone => exact absurd rfl z4
      | rel => exact absurd rfl hx
      | _ => rfl
    have ek : (m.pd i).take x = (m.pd i).move x := by
      cases x <;> first | rfl | cases hmv
    rw [ek] at k
    exact ⟨_, rfl, F.ph i, _, _, rfl, U.atPh hi, mPhoneCall_move, _, rfl, B, m, i, x, rfl, hmv, W, hi, k⟩
def spSay (K : PySem.W.Frag) (F : Fx) : Sp := fun vs H Q _ => ∃ (B : Hp) (L : Lay) (m : M) (i : Nat) (v : V), vs = [.ref (F.ph i), v] ∧ WordV B v ∧ WL K F B L m H ∧ i < F.n ∧ (m.pd i).now = .active ∧ (m.pd i).said.length ≤ 1000000 ∧
  ∀ B' H' t, Same B B' → WL K F B' L (m.set i { m.pd i with said := (m.pd i).said ++ [v] }) H' → MsgAt B' t (.word v) → Q (.ref t) H'
theorem ok_PhoneCall_say (T : Txt K mg) : Has P w K mg base CX0 1 (ma K (ga K "PhoneCall") "say") ["self", "octets"] (spSay K F) := by
  obtain ⟨fd, Fn⟩ := fd_PhoneCall_say T
  refine ⟨fd, Fn.ok sc_PhoneCall_say (fun vs H Q E h => ?_) (fun cdv A outer s H vs Q E hr h => ?_), bi_PhoneCall_say Fn, Fn.kp⟩
  · obtain ⟨B, L, m, i, v, rfl, _⟩ := h
    rfl
  · obtain ⟨B, L, m, i, v, rfl, hw, U, hi, ha, hl, k⟩ := h
    refine ⟨_, PSs.nox (pss_cons (ps_if (pt_cmpR op_ne (pe_fld (pv 0) rfl) pe_str (nomark _))
      (pss_one (ps_never))
      pss_nil)
    (pss_cons (ps_expr (pe_bm PySem.F.plainAttrs_list PySem.F.slot_list_append PySem.F.type_list_append mt_append (pe_fld (pv 0) rfl) (pa_cons (pv 1) pa_nil)))
    (pss_one (ps_ret (pe_tup (pa_cons pe_str (pa_cons (pv 1) pa_nil))))))), ?_⟩
    refine ⟨_, rfl, F.ph i, _, _, _, _, rfl, U.atPh hi, cl_PhoneCall T, na_PhoneCall_now T, gPhoneCall_now, rfl, _, rfl, nF (by rw [ha]; rfl) ?_⟩
    refine ⟨_, rfl, F.ph i, _, _, _, _, rfl, U.atPh hi, cl_PhoneCall T, na_PhoneCall_words_said T, gPhoneCall_words_said, .inl ⟨rfl, _, SqL.of (U.atSd hi)⟩, _, rfl, _, _, _, rfl, rfl, U.atSd hi, small1 (N := 1000000) hl Wk.bl, ?_⟩
    have U1 := U.setSd hi (ws := (m.pd i).said ++ [v]) fun u hu => by
      rcases List.mem_append.mp hu with q | q
      · exact (U.fine i hi).said u q
      · rw [List.mem_singleton.mp q]
        exact hw
    refine ⟨_, rfl, Wk.bl, fun t nt => ?_⟩
    obtain ⟨U2, s2⟩ := U1.imm nt (.tup [.str "word", v])
    exact k _ _ _ s2 U2 ⟨upd_same, hw.mono s2⟩
def spHang (K : PySem.W.Frag) (F : Fx) : Sp := fun vs H Q _ => ∃ (B : Hp) (L : Lay) (m : M) (i : Nat), vs = [.ref (F.ph i), .bl true] ∧ WL K F B L m H ∧ i < F.n ∧ (m.pd i).now ≠ .idle ∧ (m.pd i).now ≠ .clearing ∧
  ∀ B' H' t, Same B B' → WL K F B' L (m.set i { m.pd i with rs := .int 16, now := .clearing }) H' → MsgAt B' t (.disc (.int 16)) → Q (.ref t) H'
theorem ok_PhoneCall_hang (T : Txt K mg) : Has P w K mg base CX0 1 (ma K (ga K "PhoneCall") "hang") ["self", "reached"] (spHang K F) := by
  obtain ⟨fd, Fn⟩ := fd_PhoneCall_hang T
  refine ⟨fd, Fn.ok sc_PhoneCall_hang (fun vs H Q E h => ?_) (fun cdv A outer s H vs Q E hr h => ?_), bi_PhoneCall_hang Fn, Fn.kp⟩
  · obtain ⟨B, L, m, i, rfl, _⟩ := h
    rfl
  · obtain ⟨B, L, m, i, rfl, U, hi, h1, h2, k⟩ := h
    refine ⟨_, PSs.nox (pss_cons (ps_if (PW.pt (pw_or (pt_cmpR op_eq (pe_fld (pv 0) rfl) pe_str (nomark _)) (pw_or1 (pt_cmpR op_eq (pe_fld (pv 0) rfl) pe_str (nomark _)))))
      (pss_one (ps_never))
      pss_nil)
    (pss_cons (ps_fld (pv 0) pe_int rfl)
    (pss_cons (ps_if (pt_not (pt_val (pv 1)))
      (pss_cons (ps_fld (pv 0) pe_str rfl)
      (pss_one (ps_ret pe_non)))
      pss_nil)
    (pss_cons (ps_fld (pv 0) pe_str rfl)
    (pss_one (ps_ret (pe_tup (pa_cons pe_str (pa_cons pe_int pa_nil))))))))), ?_⟩
    replace U := selfW U i
    generalize m.pd i = d at U k h1 h2
    have hv := numOf U hi
    refine ⟨_, rfl, F.ph i, _, _, _, _, rfl, atPh U hi, cl_PhoneCall T, na_PhoneCall_now T, gPhoneCall_now, rfl, _, rfl, tF (fun q => h1 (nw_inj (b := .idle) (str_inj q))) ?_⟩
    refine ⟨_, rfl, F.ph i, _, _, _, _, rfl, atPh U hi, cl_PhoneCall T, na_PhoneCall_now T, gPhoneCall_now, rfl, _, rfl, tF (fun q => h2 (nw_inj (b := .clearing) (str_inj q))) ?_⟩
    refine ⟨_, rfl, F.ph i, _, _, _, rfl, atPh U hi, cl_PhoneCall T, na_PhoneCall_reason T, Wk.bl, ?_⟩
    have U1 := setPh U hi (a := d.now) (r := .int 16) (v := d.num) (b := d.mkd) hv
    rw [show putF "reason" (V.int 16) (phF d (L.ad (.sd i)) (L.ad (.hd i))) = phF { d with rs := .int 16 } (L.ad (.sd i)) (L.ad (.hd i)) from pPhoneCall_reason]
    refine ⟨_, rfl, true, rfl, ?_⟩
    refine ⟨_, rfl, F.ph i, _, _, _, rfl, atPh U1 hi, cl_PhoneCall T, na_PhoneCall_now T, Wk.bl, ?_⟩
    have U2 := setPh U1 hi (a := .clearing) (r := .int 16) (v := d.num) (b := d.mkd) hv
    rw [show putF "now" (V.str "clearing") (phF { d with rs := .int 16 } (L.ad (.sd i)) (L.ad (.hd i))) = phF { d with rs := .int 16, now := .clearing } (L.ad (.sd i)) (L.ad (.hd i)) from pPhoneCall_now]
    refine ⟨Wk.bl, fun t nt => ?_⟩
    obtain ⟨U3, s2⟩ := U2.imm nt (.tup [.str "disconnect", .int 16])
    exact k _ _ _ s2 U3 ⟨upd_same, 16, rfl⟩
end
end Wk
end
section
set_option Elab.async false
set_option linter.all false
set_option maxRecDepth 100000
/-! The walk: linked, link, unlink. -/
namespace Wk
open PySem L2 He Mth Fl Wl Tx PyProof.Rows
section
variable {K : PySem.W.Frag} {F : Fx} {H : Hp}
theorem dg (h : H F.wd = some (.dK (wdF F))) (x : Str) {v : V} (e : valV (wdF F) (.inr x) = some v) : DGet H F.wd (.str x) (some v) := by
  have := DGet.k (k := .inr x) h
  rw [e] at this
  exact this
theorem wNums : valV (wdF F) (.inr "numbers") = some (.ref F.nums) := by kernel_rfl
theorem wSw : valV (wdF F) (.inr "switch") = some (.ref F.sw) := by kernel_rfl
theorem wCalls : valV (wdF F) (.inr "calls") = some (.ref F.calls) := by kernel_rfl
theorem wLi : valV (wdF F) (.inr "linked") = some (.ref F.li) := by kernel_rfl
theorem wRe : valV (wdF F) (.inr "released") = some (.ref F.re) := by kernel_rfl
theorem wUp : valV (wdF F) (.inr "up") = some (.ref F.up) := by kernel_rfl
theorem wDn : valV (wdF F) (.inr "down") = some (.ref F.dn) := by kernel_rfl
theorem wPa : valV (wdF F) (.inr "paged") = some (.ref F.pa) := by kernel_rfl
theorem rng_at {n i : Nat} {f : Nat → V} (h : i < n) : atI (rng n f) (i : Int) = some (f i) := atI_nat (rng_get h)
theorem rng_ix {n i : Nat} {f : Nat → V} (h : i < n) : ixN (rng n f).length (i : Int) = some i := ixN_at (by rw [rng_len]; exact h)
end
section
variable {P : Program} {w : World} {K : PySem.W.Frag} {mg : Str → Option Value} {base : Heap} {F : Fx}
def spLinked (K : PySem.W.Frag) (F : Fx) : Sp := fun vs H Q _ => ∃ (B : Hp) (m : M), vs = [.ref F.wd] ∧ Wd K F B m H ∧ ∀ H' l ls, Same H H' → H l = none → H' l = some (.lst ((ls : List Nat).map natV)) → ls.length ≤ 5 → Q (.ref l) H'
theorem ok_law_linked (T : Txt K mg) : Has P w K mg base CX0 1 (ga K "_law_linked") ["_law_world"] (spLinked K F) := by
  obtain ⟨fd, Fn⟩ := fd_law_linked T
  refine ⟨fd, Fn.ok sc_law_linked (fun vs H Q E h => ?_) (fun cdv A outer s H vs Q E hr h => ?_), bi_law_linked Fn, Fn.kp⟩
  · obtain ⟨B, m, rfl, _⟩ := h
    rfl
  · obtain ⟨B, m, rfl, ⟨L, U⟩, k⟩ := h
    refine ⟨_, PSs.nox (pss_one (ps_ret (pe_lc (own := [("_law_k", 1)]) (g := gName 1) (tt := (tB (tOp (rIxL K) (tDGet (tVar 0) (L2.tC (.str "linked"))) (tVar 1)))) (te := (tVar 1)) rfl sc_law_linked.nd (pi_range1 rfl (fr_range T) (pa_cons (pe_callB call_len_seq (by rfl) (fr_len T) PySem.boot_len (pa_cons (pe_dget (hu_of hr) (pv 0) pe_str (fun _ _ => rfl)) pa_nil)) pa_nil)) (blkOk_by (own := [("_law_k", 1)]) (N := n_law_linked) (sc := defScope s_law_linked) (by decide +kernel)) (fun _ _ _ _ _ => pg_name (i := 1) sc_law_linked.nd rfl (Or.inl rfl)) (fun _ _ _ _ _ => (pts_one (pt_val (pe_ix ix_list (pe_dget (hu_of hr) (pv 0) pe_str (fun _ _ => rfl)) (pv 1) (fun _ _ => rfl))))) (fun _ _ _ _ _ => (pv 1))))), ?_⟩
    have n5 := U.base.five
    refine ⟨_, rfl, F.wd, _, rfl, dg U.atWd "linked" wLi, F.li, _, rfl, .inl (SqL.of U.atLi), (F.n : Int), by rw [rng_len], by omega, by omega, fun D nD => ?_⟩
    have s0 : Same H (upd H D (.lst [])) := same_upd nD
    refine lc_range (lo := 0) (n := ((F.n : Int)).toNat) (fun i H' => Same H H' ∧ ∃ ls : List Nat, ls.length ≤ i ∧ H' D = some (.lst (ls.map natV))) ⟨s0, [], Nat.le_refl _, upd_same⟩ ?_ ?_
    · rintro i H1 hi ⟨s1, ls, hl, h1⟩
      have hi2 : i < F.n := by omega
      have e0 : (V.int (0 + (i : Int))) = natV i := by
        show V.int _ = V.int _
        rw [Int.zero_add]
      rw [e0]
      refine ⟨rfl, ?_⟩
      refine ⟨_, rfl, F.wd, _, rfl, dg (s1 _ _ U.atWd) "linked" wLi, _, rfl, F.li, _, _, _, rfl, rfl, SqL.of (s1 _ _ U.atLi), rng_at hi2, _, rfl, ?_⟩
      cases (m.pd i).li with
      | true =>
        refine ⟨_, rfl, _, h1, ?_, ?_, ls ++ [i], ?_, ?_⟩
        · rw [List.length_map]
          exact small1 (N := 5) (by omega) Wk.bl
        · intro b o e
          rw [upd_ne (ne_of_none e nD)]
          exact s1 _ _ e
        · rw [List.length_append]
          show ls.length + 1 ≤ i + 1
          omega
        · rw [upd_same, List.map_append]
          rfl
      | false => exact ⟨s1, ls, by omega, h1⟩
    · rintro H1 ⟨s1, ls, hl, h1⟩
      exact k _ _ ls s1 nD h1 (by omega)
def spLink (K : PySem.W.Frag) (F : Fx) : Sp := fun vs H Q _ => ∃ (B : Hp) (L : Lay) (m : M) (i : Nat) (p : Addr) (as : List Addr) (xs : List Msg), vs = [.ref F.wd, natV i, .ref p] ∧ WL K F B L m H ∧ i < F.n ∧ Fr K F B L m p ∧ H p = some (.lst (as.map V.ref)) ∧ QAt B as xs ∧
  ∀ H', Wd K F B (m.set i ((m.pd i).link xs)) H' → Q .non H'
theorem ok_law_link (T : Txt K mg) : Has P w K mg base CX0 1 (ga K "_law_link") ["_law_world", "_law_person", "_law_down_here"] (spLink K F) := by
  obtain ⟨fd, Fn⟩ := fd_law_link T
  refine ⟨fd, Fn.ok sc_law_link (fun vs H Q E h => ?_) (fun cdv A outer s H vs Q E hr h => ?_), bi_law_link Fn, Fn.kp⟩
  · obtain ⟨B, L, m, i, p, as, xs, rfl, _⟩ := h
    rfl
  · obtain ⟨B, L, m, i, p, as, xs, rfl, U, hi, fr, hp, hq, k⟩ := h
    refine ⟨_, PSs.nox (pss_cons (ps_asg pe_bl (pg_sub (pe_dget (hu_of hr) (pv 0) pe_str (fun _ _ => rfl)) (pv 1) set_list))
    (pss_cons (ps_asg pe_bl (pg_sub (pe_dget (hu_of hr) (pv 0) pe_str (fun _ _ => rfl)) (pv 1) set_list))
    (pss_cons (ps_asg (pe_lst pa_nil) (pg_sub (pe_dget (hu_of hr) (pv 0) pe_str (fun _ _ => rfl)) (pv 1) set_list))
    (pss_one (ps_asg (pv 2) (pg_sub (pe_dget (hu_of hr) (pv 0) pe_str (fun _ _ => rfl)) (pv 1) set_list)))))), ?_⟩
    refine ⟨_, rfl, F.wd, _, rfl, dg U.atWd "linked" wLi, _, rfl, F.li, _, _, i, rfl, rfl, U.atLi, rng_ix hi, ?_⟩
    have U1 := U.setLi (i := i) true
    have fr1 : Fr K F B L (m.set i { m.pd i with li := true }) p := fr.put (r := .li) rfl rfl fun q w hq ew => by
      rw [obj_set] at ew
      · exact ew
      · cases q <;> first | exact trivial | rfl | exact absurd rfl hq | (intro _; rfl) | (intro _ _ _; rfl)
    have np1 : p ≠ F.li := fun z => fr.2 .li _ rfl (by rw [U.fix.li, z])
    have np2 : p ≠ F.re := fun z => fr.2 .re _ rfl (by rw [U.fix.re, z])
    have np3 : p ≠ F.up := fun z => fr.2 .up _ rfl (by rw [U.fix.up, z])
    have hp1 := (upd_ne (o := .lst ((rng F.n fun j => .bl (m.pd j).li).set i (.bl true))) np1).trans hp
    refine ⟨_, rfl, F.wd, _, rfl, dg U1.atWd "released" wRe, _, rfl, F.re, _, _, i, rfl, rfl, U1.atRe, rng_ix hi, ?_⟩
    have U2 := U1.setRe (i := i) false
    rw [set_set, set_same] at U2
    have fr2 : Fr K F B L (m.set i { m.pd i with li := true, re := false }) p := by
      have := fr1.put (m' := (m.set i { m.pd i with li := true }).set i { (m.set i { m.pd i with li := true }).pd i with re := false }) (r := .re) rfl rfl fun q w hq ew => by
        rw [obj_set] at ew
        · exact ew
        · cases q <;> first | exact trivial | rfl | exact absurd rfl hq | (intro _; rfl) | (intro _ _ _; rfl)
      rw [set_set, set_same] at this
      exact this
    have hp2 := (upd_ne (o := .lst ((rng F.n fun j => .bl ((m.set i { m.pd i with li := true }).pd j).re).set i (.bl false))) np2).trans hp1
    refine ⟨Wk.bl, fun q nq => ?_⟩
    have s3 := same_upd (o := .lst []) nq
    have npq : q ≠ p := fun z => by
      rw [z] at nq
      rw [nq] at hp2
      cases hp2
    refine ⟨_, rfl, F.wd, _, rfl, dg (s3 _ _ U2.atWd) "up" wUp, _, rfl, F.up, _, _, i, rfl, rfl, s3 _ _ U2.atUp, rng_ix hi, ?_⟩
    have U3 := U2.newUp (as := []) (xs := []) hi s3 (U2.fr nq) upd_same .nil
    rw [set_set, set_same] at U3
    have fr3 : Fr K F B ((L.mv (.upq i) q).setUp i []) (m.set i { m.pd i with li := true, re := false, up := [] }) p := by
      have := fr2.new (L' := (L.mv (.upq i) q).setUp i []) (m' := (m.set i { m.pd i with li := true, re := false }).set i { (m.set i { m.pd i with li := true, re := false }).pd i with up := [] }) (r := .upq i) (q0 := .up) npq rfl (if_pos rfl) (fun r z => if_neg z) fun r w z1 z2 ew => by
        rw [obj_up z1, obj_set] at ew
        · cases r <;> first | exact ew | exact absurd rfl z2
        · cases r <;> first | exact trivial | rfl | (intro _; rfl) | (intro _ _ _; rfl)
      rw [set_set, set_same] at this
      exact this
    have hp3 := (upd_ne (o := .lst ((rng F.n fun j => .ref (L.ad (.upq j))).set i (.ref q))) np3).trans (s3 _ _ hp2)
    refine ⟨_, rfl, _, rfl, F.wd, _, rfl, dg U3.atWd "down" wDn, _, rfl, F.dn, _, _, i, rfl, rfl, U3.atDn, rng_ix hi, ?_⟩
    have U4 := U3.newDn (as := as) (xs := xs) hi (Same.refl _) fr3 hp3 hq
    rw [set_set, set_same] at U4
    exact k _ ⟨_, U4⟩
def spUnlink (K : PySem.W.Frag) (F : Fx) : Sp := fun vs H Q _ => ∃ (B : Hp) (m : M) (i : Nat) (c : V), vs = [.ref F.wd, natV i, c] ∧ Wd K F B m H ∧ i < F.n ∧ ∀ H', Wd K F B (m.set i ((m.pd i).unlink c)) H' → Q .non H'
theorem ok_law_unlink (T : Txt K mg) : Has P w K mg base CX0 2 (ga K "_law_unlink") ["_law_world", "_law_person", "_law_cause"] (spUnlink K F) := by
  obtain ⟨fd, Fn⟩ := fd_law_unlink T
  obtain ⟨_, G_PhoneCall_end, b_PhoneCall_end, k_PhoneCall_end⟩ := ok_PhoneCall_end (P := P) (w := w) (base := base) (F := F) T
  refine ⟨fd, Fn.ok sc_law_unlink (fun vs H Q E h => ?_) (fun cdv A outer s H vs Q E hr h => ?_), bi_law_unlink Fn, Fn.kp⟩
  · obtain ⟨B, m, i, c, rfl, _⟩ := h
    rfl
  · obtain ⟨B, m, i, c, rfl, W, hi, k⟩ := h
    have W' := W
    obtain ⟨L, U⟩ := W'
    refine ⟨_, PSs.nox (pss_cons (ps_expr (pe_meth (pe_ix ix_list (pe_dget (hu_of hr) (pv 0) pe_str (fun _ _ => rfl)) (pv 1) (fun _ _ => rfl)) (cl_PhoneCall T) (me_PhoneCall_end T) G_PhoneCall_end (hr.mono (by decide)) b_PhoneCall_end .nil pass0 (pa_cons (pv 2) pa_nil)))
    (pss_cons (ps_asg pe_bl (pg_sub (pe_dget (hu_of hr) (pv 0) pe_str (fun _ _ => rfl)) (pv 1) set_list))
    (pss_cons (ps_asg (pe_lst pa_nil) (pg_sub (pe_dget (hu_of hr) (pv 0) pe_str (fun _ _ => rfl)) (pv 1) set_list))
    (pss_one (ps_asg (pe_lst pa_nil) (pg_sub (pe_dget (hu_of hr) (pv 0) pe_str (fun _ _ => rfl)) (pv 1) set_list)))))), ?_⟩
    refine ⟨_, rfl, F.wd, _, rfl, dg U.atWd "calls" wCalls, _, rfl, F.calls, _, _, _, rfl, rfl, SqL.of U.atCalls, rng_at hi, F.ph i, _, _, rfl, U.atPh hi, mPhoneCall_end, _, rfl, B, m, i, c, rfl, W, hi, fun H1 W1 => ?_⟩
    obtain ⟨L1, U1⟩ := W1
    refine ⟨_, rfl, F.wd, _, rfl, dg U1.atWd "linked" wLi, _, rfl, F.li, _, _, i, rfl, rfl, U1.atLi, rng_ix hi, ?_⟩
    have U2 := U1.setLi (i := i) false
    rw [set_set, set_same] at U2
    refine ⟨Wk.bl, fun q nq => ?_⟩
    have s3 := same_upd (o := .lst []) nq
    refine ⟨_, rfl, F.wd, _, rfl, dg (s3 _ _ U2.atWd) "up" wUp, _, rfl, F.up, _, _, i, rfl, rfl, s3 _ _ U2.atUp, rng_ix hi, ?_⟩
    have U3 := U2.newUp (as := []) (xs := []) hi s3 (U2.fr nq) upd_same .nil
    rw [set_set, set_same] at U3
    refine ⟨Wk.bl, fun q2 nq2 => ?_⟩
    have s4 := same_upd (o := .lst []) nq2
    refine ⟨_, rfl, F.wd, _, rfl, dg (s4 _ _ U3.atWd) "down" wDn, _, rfl, F.dn, _, _, i, rfl, rfl, s4 _ _ U3.atDn, rng_ix hi, ?_⟩
    have U4 := U3.newDn (as := []) (xs := []) hi s4 (U3.fr nq2) upd_same .nil
    rw [set_set, set_same] at U4
    exact k _ ⟨_, U4⟩
end
end Wk
end
section
set_option Elab.async false
set_option linter.all false
set_option maxRecDepth 100000
/-! The walk: perform. -/
namespace Wk
open PySem L2 He Mth Fl Wl Tx PyProof.Rows
theorem actP_len (j : Nat) (d : Pd) (a : Mth.Act) : (actP j d a).dn.length ≤ d.dn.length + 1 := by
  cases a with
  | tell p x =>
    unfold actP
    dsimp only
    split
    · show (d.dn ++ [x]).length ≤ _
      rw [List.length_append]
      exact Nat.le_refl _
    · exact Nat.le_succ _
  | release p =>
    unfold actP
    dsimp only
    split
    · show (d.dn ++ [Msg.rel]).length ≤ _
      rw [List.length_append]
      exact Nat.le_refl _
    · exact Nat.le_succ _
  | page p =>
    unfold actP
    dsimp only
    split <;> exact Nat.le_succ _
  | unpage p =>
    unfold actP
    dsimp only
    split <;> exact Nat.le_succ _
theorem actsP_len (j : Nat) : ∀ (l : List Mth.Act) (d : Pd), (actsP j d l).dn.length ≤ d.dn.length + l.length
  | [], d => Nat.le_refl _
  | a :: l, d => by
    have h1 := actsP_len j l (actP j d a)
    have h2 := actP_len j d a
    rw [actsP_cons, List.length_cons]
    omega
def actS : Mth.Act → Str
  | .tell _ _ => "tell"
  | .release _ => "release"
  | .page _ => "page"
  | .unpage _ => "unpage"
theorem act_tup {B : Hp} {a : Addr} {x : Mth.Act} (h : ActAt B a x) : ∃ r, B a = some (.tup (.str (actS x) :: natV x.who :: r)) := by
  cases x with
  | tell p x =>
    obtain ⟨t, h1, _⟩ := h
    exact ⟨_, h1⟩
  | release p => exact ⟨_, h⟩
  | page p => exact ⟨_, h⟩
  | unpage p => exact ⟨_, h⟩
section
variable {P : Program} {w : World} {K : PySem.W.Frag} {mg : Str → Option Value} {base : Heap} {F : Fx}
theorem sNe {x y : Str} {A B : Prop} (h : ¬ x = y) (k : B) : if decide (V.str x = V.str y) = true then A else B := tF (fun q => h (str_inj q)) k
/-- an action that changes nothing -/
theorem perf_same {M0 : M} {a : Mth.Act} (h : actP a.who (M0.pd a.who) a = M0.pd a.who) : perf M0 [a] = M0 := by
  rw [perf_one rfl h, set_self]
def spPerf (K : PySem.W.Frag) (F : Fx) : Sp := fun vs H Q _ => ∃ (B : Hp) (m : M) (l : Addr) (acts : List Mth.Act), vs = [.ref F.wd, .ref l] ∧ Wd K F B m H ∧ ActsAt B l acts ∧ (∀ a ∈ acts, a.who < F.n) ∧ (∀ j, j < F.n → (m.pd j).dn.length + acts.length ≤ 1000000) ∧
  ∀ B' H', Same B B' → Wd K F B' (perf m acts) H' → Q .non H'
theorem ok_law_perform (T : Txt K mg) : Has P w K mg base CX0 1 (ga K "_law_perform") ["_law_world", "_law_actions"] (spPerf K F) := by
  obtain ⟨fd, Fn⟩ := fd_law_perform T
  refine ⟨fd, Fn.ok sc_law_perform (fun vs H Q E h => ?_) (fun cdv A outer s H vs Q E hr h => ?_), bi_law_perform Fn, Fn.kp⟩
  · obtain ⟨B, m, l, acts, rfl, _⟩ := h
    rfl
  · obtain ⟨B, m, l, acts, rfl, ⟨L0, U0⟩, ⟨as, hl, hP⟩, hw, hn, k⟩ := h
    refine ⟨_, PSs.nox (pss_one (ps_for PassesOwn.never rfl (pi_list (pv 1)) (pg_name (i := 2) sc_law_perform.nd rfl (Or.inl rfl))
      (pss_cons (ps_set (i := 3) sc_law_perform.nd rfl (Or.inl rfl) (pe_ix ix_tup (pv 2) pe_int (fun _ _ => rfl)))
      (pss_cons (ps_set (i := 4) sc_law_perform.nd rfl (Or.inl rfl) (pe_and (pe_ix ix_list (pe_dget (hu_of hr) (pv 0) pe_str (fun _ _ => rfl)) (pv 3) (fun _ _ => rfl)) (pe_one (pe_not (pe_ix ix_list (pe_dget (hu_of hr) (pv 0) pe_str (fun _ _ => rfl)) (pv 3) (fun _ _ => rfl))))))
      (pss_cons (ps_if (pt_cmpR op_eq (pe_ix ix_tup (pv 2) pe_int (fun _ _ => rfl)) pe_str (nomark _))
        (pss_one (ps_asg pe_bl (pg_sub (pe_dget (hu_of hr) (pv 0) pe_str (fun _ _ => rfl)) (pv 3) set_list)))
        pss_nil)
      (pss_cons (ps_if (pt_cmpR op_eq (pe_ix ix_tup (pv 2) pe_int (fun _ _ => rfl)) pe_str (nomark _))
        (pss_one (ps_asg pe_bl (pg_sub (pe_dget (hu_of hr) (pv 0) pe_str (fun _ _ => rfl)) (pv 3) set_list)))
        pss_nil)
      (pss_cons (ps_if (PW.pt (pw_and (pt_cmpR op_eq (pe_ix ix_tup (pv 2) pe_int (fun _ _ => rfl)) pe_str (nomark _)) (pw_and1 (pt_val (pv 4)))))
        (pss_one (ps_expr (pe_bm PySem.F.plainAttrs_list PySem.F.slot_list_append PySem.F.type_list_append mt_append (pe_ix ix_list (pe_dget (hu_of hr) (pv 0) pe_str (fun _ _ => rfl)) (pv 3) (fun _ _ => rfl)) (pa_cons (pe_ix ix_tup (pv 2) pe_int (fun _ _ => rfl)) pa_nil))))
        pss_nil)
      (pss_one (ps_if (PW.pt (pw_and (pt_cmpR op_eq (pe_ix ix_tup (pv 2) pe_int (fun _ _ => rfl)) pe_str (nomark _)) (pw_and1 (pt_val (pv 4)))))
        (pss_cons (ps_expr (pe_bm PySem.F.plainAttrs_list PySem.F.slot_list_append PySem.F.type_list_append mt_append (pe_ix ix_list (pe_dget (hu_of hr) (pv 0) pe_str (fun _ _ => rfl)) (pv 3) (fun _ _ => rfl)) (pa_cons (pe_tup (pa_cons pe_str pa_nil)) pa_nil)))
        (pss_one (ps_asg pe_bl (pg_sub (pe_dget (hu_of hr) (pv 0) pe_str (fun _ _ => rfl)) (pv 3) set_list))))
        pss_nil))))))))), ?_⟩
    have len := all2_len hP
    refine ⟨_, rfl, l, rfl, ⟨_, SqL.of (U0.same _ _ hl)⟩, ?_⟩
    refine for_list (K := K) (a := l) (xs := as.map V.ref) (fun i σ H' => ∃ (a b c : Option V) (B' : Hp), σ = [some (.ref F.wd), some (.ref l), a, b, c] ∧ Same B B' ∧ Wd K F B' (perf m (acts.take i)) H') ⟨none, none, none, B, rfl, Same.refl _, L0, U0⟩ (fun i σ H' _ ⟨_, _, _, B', _, s, _, U⟩ => SqL.of (U.same _ _ (s _ _ hl))) ?_ ?_
    · rintro i y σ H1 hi ⟨a0, b0, c0, B1, rfl, s1, W1⟩
      obtain ⟨ta, hta, rfl⟩ := map_at hi
      obtain ⟨x, hx, hA⟩ := pair_at hP hta
      have hA1 := hA.mono s1
      have hxm := List.mem_of_getElem? hx
      have hp := hw x hxm
      have W1' := W1
      obtain ⟨L, U⟩ := W1'
      obtain ⟨r, hr1⟩ := act_tup hA1
      have hrH := U.same _ _ hr1
      have et : acts.take (i + 1) = acts.take i ++ [x] := take_at hx
      have il : i < acts.length := (List.getElem?_eq_some_iff.mp hx).1
      have dl : ((perf m (acts.take i)).pd x.who).dn.length ≤ 1000000 := by
        have := actsP_len x.who (acts.take i) (m.pd x.who)
        rw [List.length_take] at this
        have := hn x.who hp
        show (actsP x.who (m.pd x.who) (acts.take i)).dn.length ≤ 1000000
        omega
      generalize hM : perf m (acts.take i) = M0 at W1 U dl
      have fin : ∀ {a b c : Option V} {B2 H2 : Hp}, Same B1 B2 → Wd K F B2 (perf M0 [x]) H2 → ∃ (a' b' c' : Option V) (B' : Hp), [some (.ref F.wd), some (.ref l), a, b, c] = [some (.ref F.wd), some (.ref l), a', b', c'] ∧ Same B B' ∧ Wd K F B' (perf m (acts.take (i + 1))) H2 := fun s2 W2 =>
        ⟨_, _, _, _, rfl, s1.trans s2, by rw [et, perf_app, hM]; exact W2⟩
      have dnl := all2_len (U.fine x.who hp).dn
      refine ⟨_, rfl, ta, _, _, natV x.who, rfl, rfl, SqT.of hrH, atI_nat (j := 1) rfl, ?_⟩
      refine ⟨_, rfl, F.wd, _, rfl, dg U.atWd "linked" wLi, _, rfl, F.li, _, _, _, rfl, rfl, SqL.of U.atLi, rng_at hp, (M0.pd x.who).li, rfl, ?_⟩
      have able : ∀ {G : V → Prop}, G (.bl ((M0.pd x.who).li && !(M0.pd x.who).re)) → ((M0.pd x.who).li = false → G (.bl false)) ∧ ((M0.pd x.who).li = true → G (.bl (!(M0.pd x.who).re))) := fun {G} g => ⟨fun e => by rw [e] at g; exact g, fun e => by rw [e] at g; exact g⟩
      -- one test of the action's kind
      have nope : ∀ {y : Str}, ¬ actS x = y → ¬ V.str (actS x) = V.str y := fun h z => h (str_inj z)
      cases x with
      | page p =>
        have e1 : perf M0 [.page p] = M0.set p { M0.pd p with pa := true } := perf_one rfl (if_pos rfl)
        have U2 := U.setPa (i := p) true
        have hr2 := U2.same _ _ hr1
        rw [← e1] at U2
        cases eli : (M0.pd (Mth.Act.page p).who).li
        all_goals
          first
          | refine ⟨_, rfl, F.wd, _, rfl, dg U.atWd "released" wRe, _, rfl, F.re, _, _, _, rfl, rfl, SqL.of U.atRe, rng_at hp, (M0.pd p).re, rfl, ?_⟩
          | skip
          refine ⟨_, rfl, ta, _, _, _, rfl, rfl, SqT.of hrH, atI_nat (j := 0) rfl, rfl, _, rfl, tT rfl ?_⟩
          refine ⟨_, rfl, F.wd, _, rfl, dg U.atWd "paged" wPa, _, rfl, F.pa, _, _, p, rfl, rfl, U.atPa, rng_ix hp, ?_⟩
          refine ⟨_, rfl, ta, _, _, _, rfl, rfl, SqT.of hr2, atI_nat (j := 0) rfl, rfl, _, rfl, sNe (x := "page") (by decide +kernel) ?_⟩
          refine ⟨_, rfl, ta, _, _, _, rfl, rfl, SqT.of hr2, atI_nat (j := 0) rfl, rfl, _, rfl, sNe (x := "page") (by decide +kernel) ?_⟩
          refine ⟨_, rfl, ta, _, _, _, rfl, rfl, SqT.of hr2, atI_nat (j := 0) rfl, rfl, _, rfl, sNe (x := "page") (by decide +kernel) ?_⟩
          obtain ⟨a', b', c', B', e, y⟩ := fin (a := some (.ref ta)) (b := some (natV p)) (c := some (.bl _)) (Same.refl _) ⟨_, U2⟩
          exact ⟨a', b', c', B', e, y⟩
      | unpage p =>
        have e1 : perf M0 [.unpage p] = M0.set p { M0.pd p with pa := false } := perf_one rfl (if_pos rfl)
        have U2 := U.setPa (i := p) false
        have hr2 := U2.same _ _ hr1
        rw [← e1] at U2
        cases eli : (M0.pd (Mth.Act.unpage p).who).li
        all_goals
          first
          | refine ⟨_, rfl, F.wd, _, rfl, dg U.atWd "released" wRe, _, rfl, F.re, _, _, _, rfl, rfl, SqL.of U.atRe, rng_at hp, (M0.pd p).re, rfl, ?_⟩
          | skip
          refine ⟨_, rfl, ta, _, _, _, rfl, rfl, SqT.of hrH, atI_nat (j := 0) rfl, rfl, _, rfl, sNe (x := "unpage") (by decide +kernel) ?_⟩
          refine ⟨_, rfl, ta, _, _, _, rfl, rfl, SqT.of hrH, atI_nat (j := 0) rfl, rfl, _, rfl, tT rfl ?_⟩
          refine ⟨_, rfl, F.wd, _, rfl, dg U.atWd "paged" wPa, _, rfl, F.pa, _, _, p, rfl, rfl, U.atPa, rng_ix hp, ?_⟩
          refine ⟨_, rfl, ta, _, _, _, rfl, rfl, SqT.of hr2, atI_nat (j := 0) rfl, rfl, _, rfl, sNe (x := "unpage") (by decide +kernel) ?_⟩
          refine ⟨_, rfl, ta, _, _, _, rfl, rfl, SqT.of hr2, atI_nat (j := 0) rfl, rfl, _, rfl, sNe (x := "unpage") (by decide +kernel) ?_⟩
          obtain ⟨a', b', c', B', e, y⟩ := fin (a := some (.ref ta)) (b := some (natV p)) (c := some (.bl _)) (Same.refl _) ⟨_, U2⟩
          exact ⟨a', b', c', B', e, y⟩
      | tell p z =>
        replace hp : p < F.n := hp
        obtain ⟨t, ht, hMt⟩ := hA1
        have ht2 := U.same _ _ ht
        cases eli : (M0.pd (Mth.Act.tell p z).who).li with
        | false =>
          replace eli : (M0.pd p).li = false := eli
          have e1 : perf M0 [.tell p z] = M0 := perf_same (if_neg fun q => by rw [show (M0.pd p).li = true from q.2.1] at eli; cases eli)
          refine ⟨_, rfl, ta, _, _, _, rfl, rfl, SqT.of ht2, atI_nat (j := 0) rfl, rfl, _, rfl, sNe (by decide +kernel) ?_⟩
          refine ⟨_, rfl, ta, _, _, _, rfl, rfl, SqT.of ht2, atI_nat (j := 0) rfl, rfl, _, rfl, sNe (by decide +kernel) ?_⟩
          refine ⟨_, rfl, ta, _, _, _, rfl, rfl, SqT.of ht2, atI_nat (j := 0) rfl, rfl, _, rfl, tT rfl ⟨_, rfl, false, rfl, ?_⟩⟩
          refine ⟨_, rfl, ta, _, _, _, rfl, rfl, SqT.of ht2, atI_nat (j := 0) rfl, rfl, _, rfl, sNe (by decide +kernel) ?_⟩
          obtain ⟨a', b', c', B', e, y⟩ := fin (a := some (.ref ta)) (b := some (natV p)) (c := some (.bl _)) (Same.refl _) ⟨_, by rw [e1]; exact U⟩
          exact ⟨a', b', c', B', e, y⟩
        | true =>
          replace eli : (M0.pd p).li = true := eli
          refine ⟨_, rfl, F.wd, _, rfl, dg U.atWd "released" wRe, _, rfl, F.re, _, _, _, rfl, rfl, SqL.of U.atRe, rng_at hp, (M0.pd p).re, rfl, ?_⟩
          refine ⟨_, rfl, ta, _, _, _, rfl, rfl, SqT.of ht2, atI_nat (j := 0) rfl, rfl, _, rfl, sNe (by decide +kernel) ?_⟩
          refine ⟨_, rfl, ta, _, _, _, rfl, rfl, SqT.of ht2, atI_nat (j := 0) rfl, rfl, _, rfl, sNe (by decide +kernel) ?_⟩
          refine ⟨_, rfl, ta, _, _, _, rfl, rfl, SqT.of ht2, atI_nat (j := 0) rfl, rfl, _, rfl, tT rfl ⟨_, rfl, _, rfl, ?_⟩⟩
          cases ere : (M0.pd p).re with
          | true =>
            have e1 : perf M0 [.tell p z] = M0 := perf_same (if_neg fun q => by rw [show (M0.pd p).re = false from q.2.2] at ere; cases ere)
            refine ⟨_, rfl, ta, _, _, _, rfl, rfl, SqT.of ht2, atI_nat (j := 0) rfl, rfl, _, rfl, sNe (by decide +kernel) ?_⟩
            obtain ⟨a', b', c', B', e, y⟩ := fin (a := some (.ref ta)) (b := some (natV p)) (c := some (.bl _)) (Same.refl _) ⟨_, by rw [e1]; exact U⟩
            exact ⟨a', b', c', B', e, y⟩
          | false =>
            have e1 : perf M0 [.tell p z] = M0.set p { M0.pd p with dn := (M0.pd p).dn ++ [z] } := perf_one rfl (tell_on eli ere)
            have U2 := U.setDn (i := p) hp (as := L.dnA p ++ [t]) (xs := (M0.pd p).dn ++ [z]) (all2_app (U.fine p hp).dn (.cons hMt .nil))
            rw [List.map_append] at U2
            have hr2 := U2.same _ _ ht
            rw [← e1] at U2
            refine ⟨_, rfl, F.wd, _, rfl, dg U.atWd "down" wDn, _, rfl, F.dn, _, _, _, rfl, rfl, SqL.of U.atDn, rng_at hp, .inl ⟨rfl, _, SqL.of (U.atDnq hp)⟩, _, rfl, ta, _, _, _, rfl, rfl, SqT.of ht2, atI_nat (j := 2) rfl, ?_⟩
            refine ⟨_, _, _, rfl, rfl, U.atDnq hp, by rw [List.length_map]; exact small1 (N := 1000000) (by have : (L.dnA p).length = (M0.pd p).dn.length := dnl; have : (M0.pd p).dn.length ≤ 1000000 := dl; omega) Wk.bl, ?_⟩
            refine ⟨_, rfl, ta, _, _, _, rfl, rfl, SqT.of hr2, atI_nat (j := 0) rfl, rfl, _, rfl, sNe (by decide +kernel) ?_⟩
            obtain ⟨a', b', c', B', e, y⟩ := fin (a := some (.ref ta)) (b := some (natV p)) (c := some (.bl _)) (Same.refl _) ⟨_, U2⟩
            exact ⟨a', b', c', B', e, y⟩
      | release p =>
        replace hp : p < F.n := hp
        cases eli : (M0.pd (Mth.Act.release p).who).li with
        | false =>
          replace eli : (M0.pd p).li = false := eli
          have e1 : perf M0 [.release p] = M0 := perf_same (if_neg fun q => by rw [show (M0.pd p).li = true from q.2.1] at eli; cases eli)
          refine ⟨_, rfl, ta, _, _, _, rfl, rfl, SqT.of hrH, atI_nat (j := 0) rfl, rfl, _, rfl, sNe (x := "release") (by decide +kernel) ?_⟩
          refine ⟨_, rfl, ta, _, _, _, rfl, rfl, SqT.of hrH, atI_nat (j := 0) rfl, rfl, _, rfl, sNe (x := "release") (by decide +kernel) ?_⟩
          refine ⟨_, rfl, ta, _, _, _, rfl, rfl, SqT.of hrH, atI_nat (j := 0) rfl, rfl, _, rfl, sNe (x := "release") (by decide +kernel) ?_⟩
          refine ⟨_, rfl, ta, _, _, _, rfl, rfl, SqT.of hrH, atI_nat (j := 0) rfl, rfl, _, rfl, tT rfl ⟨_, rfl, false, rfl, ?_⟩⟩
          obtain ⟨a', b', c', B', e, y⟩ := fin (a := some (.ref ta)) (b := some (natV p)) (c := some (.bl _)) (Same.refl _) ⟨_, by rw [e1]; exact U⟩
          exact ⟨a', b', c', B', e, y⟩
        | true =>
          replace eli : (M0.pd p).li = true := eli
          refine ⟨_, rfl, F.wd, _, rfl, dg U.atWd "released" wRe, _, rfl, F.re, _, _, _, rfl, rfl, SqL.of U.atRe, rng_at hp, (M0.pd p).re, rfl, ?_⟩
          refine ⟨_, rfl, ta, _, _, _, rfl, rfl, SqT.of hrH, atI_nat (j := 0) rfl, rfl, _, rfl, sNe (x := "release") (by decide +kernel) ?_⟩
          refine ⟨_, rfl, ta, _, _, _, rfl, rfl, SqT.of hrH, atI_nat (j := 0) rfl, rfl, _, rfl, sNe (x := "release") (by decide +kernel) ?_⟩
          refine ⟨_, rfl, ta, _, _, _, rfl, rfl, SqT.of hrH, atI_nat (j := 0) rfl, rfl, _, rfl, sNe (x := "release") (by decide +kernel) ?_⟩
          refine ⟨_, rfl, ta, _, _, _, rfl, rfl, SqT.of hrH, atI_nat (j := 0) rfl, rfl, _, rfl, tT rfl ⟨_, rfl, _, rfl, ?_⟩⟩
          cases ere : (M0.pd p).re with
          | true =>
            have e1 : perf M0 [.release p] = M0 := perf_same (if_neg fun q => by rw [show (M0.pd p).re = false from q.2.2] at ere; cases ere)
            obtain ⟨a', b', c', B', e, y⟩ := fin (a := some (.ref ta)) (b := some (natV p)) (c := some (.bl _)) (Same.refl _) ⟨_, by rw [e1]; exact U⟩
            exact ⟨a', b', c', B', e, y⟩
          | false =>
            have e1 : perf M0 [.release p] = M0.set p { M0.pd p with dn := (M0.pd p).dn ++ [.rel], re := true } := perf_one rfl (rel_on eli ere)
            refine ⟨_, rfl, F.wd, _, rfl, dg U.atWd "down" wDn, _, rfl, F.dn, _, _, _, rfl, rfl, SqL.of U.atDn, rng_at hp, .inl ⟨rfl, _, SqL.of (U.atDnq hp)⟩, Wk.bl, fun t nt => ?_⟩
            obtain ⟨U1, s1'⟩ := U.imm nt (.tup [.str "release"])
            have hMt : MsgAt (upd B1 t (.tup [.str "release"])) t .rel := ⟨upd_same, trivial⟩
            have U2 := U1.setDn (i := p) hp (as := L.dnA p ++ [t]) (xs := (M0.pd p).dn ++ [.rel]) (all2_app (U1.fine p hp).dn (.cons hMt .nil))
            rw [List.map_append] at U2
            refine ⟨_, _, _, rfl, rfl, U1.atDnq hp, by rw [List.length_map]; exact small1 (N := 1000000) (by have : (L.dnA p).length = (M0.pd p).dn.length := dnl; have : (M0.pd p).dn.length ≤ 1000000 := dl; omega) Wk.bl, ?_⟩
            refine ⟨_, rfl, F.wd, _, rfl, dg U2.atWd "released" wRe, _, rfl, F.re, _, _, p, rfl, rfl, U2.atRe, rng_ix hp, ?_⟩
            have U3 := U2.setRe (i := p) true
            rw [set_set, set_same] at U3
            rw [← e1] at U3
            obtain ⟨a', b', c', B', e, y⟩ := fin (a := some (.ref ta)) (b := some (natV p)) (c := some (.bl _)) s1' ⟨_, U3⟩
            exact ⟨a', b', c', B', e, y⟩
    · rintro σ H1 ⟨a0, b0, c0, B1, rfl, s1, W1⟩
      have e : acts.take (as.map V.ref).length = acts := by
        rw [List.length_map, len]
        exact List.take_length
      rw [e] at W1
      exact k _ _ s1 W1
end
end Wk
end
section
set_option Elab.async false
set_option linter.all false
set_option maxRecDepth 100000
/-! Lists of objects compared: the same objects in order, or of unlike lengths. -/
namespace Wk
open PySem PySem.Spec L2 He Mth Fl Wl Tx PyProof.Rows
def rEqR (K : PySem.W.Frag) (neg : Bool) : R2 := fun x y H Q => ∃ a b xs ys, x = .ref a ∧ y = .ref b ∧ SqL K H a xs ∧ SqL K H b ys ∧ ((xs = ys ∧ (∀ v ∈ xs, ∃ p, v = V.ref p) ∧ Q (.bl (!neg)) H) ∨ (xs.length ≠ ys.length ∧ Q (.bl neg) H))
theorem all_true (n : Nat) : (List.range n).all (fun _ => true) = true := by
  rw [List.all_eq_true]
  exact fun _ _ => rfl
theorem same_refs : ∀ {xs : List V} {us ws : List Value}, (∀ v ∈ xs, ∃ p, v = V.ref p) → Vals xs us → Vals xs ws → us = ws
  | _, _, _, _, .nil, .nil => rfl
  | x :: xs, u :: us, w :: ws, h, .cons r t, .cons r' t' => by
    obtain ⟨p, rfl⟩ := h x List.mem_cons_self
    cases (show u = Value.ref p from r)
    cases (show w = Value.ref p from r')
    rw [same_refs (fun v hv => h v (List.mem_cons_of_mem _ hv)) t t']
theorem op_eqR {X : Cx} (hu : X.A.units < cLine) : OpR X (compareOp .Eq) (rEqR X.K false) := by
  intro pins s σ H x y v u Q I rx ry h
  obtain ⟨a, b, xs, ys, rfl, rfl, hx, hy, h⟩ := h
  cases rx
  cases ry
  obtain ⟨us, r1, p1, _⟩ := I.list hx
  obtain ⟨ws, r2, p2, _⟩ := I.list hy
  obtain ⟨o1, n1, e1, c1, _, d1⟩ := p1
  obtain ⟨o2, n2, e2, c2, _, d2⟩ := p2
  have l1 : s.heap.IsList a us.toArray := ⟨o1, e1, c1, n1, d1⟩
  have l2 : s.heap.IsList b ws.toArray := ⟨o2, e2, c2, n2, d2⟩
  rcases h with ⟨rfl, hr, q⟩ | ⟨hn, q⟩
  · have e := same_refs hr r1 r2
    subst e
    refine SeqAt.eq_listAt (e := fun _ => true) l1 l2 rfl hu (fun j h1 h2 => SeqAt.EqAt.same _) ?_
    rw [all_true]
    exact ⟨.bl true, H, I, rfl, q⟩
  · have : us.length ≠ ws.length := by rw [← r1.length, ← r2.length]; exact hn
    refine SeqAt.eq_list_lengthsAt l1 l2 (by simpa using this) hu ?_
    exact ⟨.bl false, H, I, rfl, q⟩
theorem op_neR {X : Cx} (hu : X.A.units < cLine) : OpR X (compareOp .NotEq) (rEqR X.K true) := by
  intro pins s σ H x y v u Q I rx ry h
  obtain ⟨a, b, xs, ys, rfl, rfl, hx, hy, h⟩ := h
  cases rx
  cases ry
  obtain ⟨us, r1, p1, _⟩ := I.list hx
  obtain ⟨ws, r2, p2, _⟩ := I.list hy
  obtain ⟨o1, n1, e1, c1, _, d1⟩ := p1
  obtain ⟨o2, n2, e2, c2, _, d2⟩ := p2
  have l1 : s.heap.IsList a us.toArray := ⟨o1, e1, c1, n1, d1⟩
  have l2 : s.heap.IsList b ws.toArray := ⟨o2, e2, c2, n2, d2⟩
  rcases h with ⟨rfl, hr, q⟩ | ⟨hn, q⟩
  · have e := same_refs hr r1 r2
    subst e
    have := SeqAt.RcNeAt.lists (e := fun _ => true) l1 l2 rfl hu (fun j h1 h2 => SeqAt.EqAt.same _)
    rw [all_true] at this
    exact this X.prog X.w _ _ ⟨.bl false, H, I, rfl, q⟩
  · have : us.length ≠ ws.length := by rw [← r1.length, ← r2.length]; exact hn
    exact SeqAt.RcNeAt.lists_lengths l1 l2 (by simpa using this) hu X.prog X.w _ _ ⟨.bl true, H, I, rfl, q⟩
end Wk
end
section
set_option Elab.async false
set_option linter.all false
set_option maxRecDepth 100000
/-! The walk: one message up. -/
namespace Wk
open PySem L2 He Mth Fl Wl Tx PyProof.Rows
/-- no list is long -/
structure Lim (n N : Nat) (m : M) : Prop where
  up : ∀ i, i < n → (m.pd i).up.length ≤ N
  dn : ∀ i, i < n → (m.pd i).dn.length ≤ N
  said : ∀ i, i < n → (m.pd i).said.length ≤ N
  heard : ∀ i, i < n → (m.pd i).heard.length ≤ N
  bk : m.bk.length ≤ N
theorem Lim.mono {n N N' : Nat} {m : M} (h : Lim n N m) (k : N ≤ N') : Lim n N' m :=
  ⟨fun i hi => Nat.le_trans (h.up i hi) k, fun i hi => Nat.le_trans (h.dn i hi) k, fun i hi => Nat.le_trans (h.said i hi) k, fun i hi => Nat.le_trans (h.heard i hi) k, Nat.le_trans h.bk k⟩
theorem Lim.set {n N : Nat} {m : M} (h : Lim n N m) (i : Nat) {d : Pd} (h1 : d.up.length ≤ N) (h2 : d.dn.length ≤ N) (h3 : d.said.length ≤ N) (h4 : d.heard.length ≤ N) : Lim n N (m.set i d) := by
  have key : ∀ {f : Pd → Nat}, f d ≤ N → (∀ j, j < n → f (m.pd j) ≤ N) → ∀ j, j < n → f ((m.set i d).pd j) ≤ N := fun {f} a b j hj => by
    by_cases z : j = i
    · rw [z, set_same]
      exact a
    · rw [set_ne _ _ z]
      exact b j hj
  exact ⟨key (f := fun d => d.up.length) h1 h.up, key (f := fun d => d.dn.length) h2 h.dn, key (f := fun d => d.said.length) h3 h.said, key (f := fun d => d.heard.length) h4 h.heard, h.bk⟩
theorem actsP_keep (j : Nat) : ∀ (l : List Mth.Act) (d : Pd), (actsP j d l).up = d.up ∧ (actsP j d l).said = d.said ∧ (actsP j d l).heard = d.heard
  | [], d => ⟨rfl, rfl, rfl⟩
  | a :: l, d => by
    obtain ⟨h1, h2, h3⟩ := actsP_keep j l (actP j d a)
    have : (actP j d a).up = d.up ∧ (actP j d a).said = d.said ∧ (actP j d a).heard = d.heard := by
      cases a <;> (unfold actP; dsimp only; split <;> exact ⟨rfl, rfl, rfl⟩)
    rw [actsP_cons]
    exact ⟨h1.trans this.1, h2.trans this.2.1, h3.trans this.2.2⟩
theorem Lim.perf {n N : Nat} {m : M} (h : Lim n N m) (l : List Mth.Act) : Lim n (N + l.length) (perf m l) :=
  ⟨fun i hi => by
    show (actsP i (m.pd i) l).up.length ≤ _
    rw [(actsP_keep i l _).1]
    exact Nat.le_trans (h.up i hi) (Nat.le_add_right _ _), fun i hi => Nat.le_trans (actsP_len i l _) (Nat.add_le_add_right (h.dn i hi) _), fun i hi => by
    show (actsP i (m.pd i) l).said.length ≤ _
    rw [(actsP_keep i l _).2.1]
    exact Nat.le_trans (h.said i hi) (Nat.le_add_right _ _), fun i hi => by
    show (actsP i (m.pd i) l).heard.length ≤ _
    rw [(actsP_keep i l _).2.2]
    exact Nat.le_trans (h.heard i hi) (Nat.le_add_right _ _), Nat.le_trans h.bk (Nat.le_add_right _ _)⟩
/-- the same persons, the book at most one row longer -/
theorem Lim.sw {n N : Nat} {m m' : M} (h : Lim n N m) (e : m'.pd = m.pd) (b : m'.bk.length ≤ N) : Lim n N m' := ⟨by rw [e]; exact h.up, by rw [e]; exact h.dn, by rw [e]; exact h.said, by rw [e]; exact h.heard, b⟩
/-- whose acts they are -/
def Who (n : Nat) (l : List Mth.Act) : Prop := ∀ a ∈ l, a.who < n
theorem who_refuse {n p : Nat} {c : V} (h : p < n) : Who n (Mth.refuse p c) := fun a ha => by
  simp only [Mth.refuse, List.mem_cons, List.not_mem_nil, or_false] at ha
  rcases ha with rfl | rfl <;> exact h
/-- what one message does at the switch: the persons stay -/
structure Sw (n : Nat) (m m' : M) (acts : List Mth.Act) : Prop where
  pd : m'.pd = m.pd
  bk : m'.bk.length ≤ m.bk.length + 1
  who : Who n acts
  few : acts.length ≤ 8
theorem drop_len (m : M) (c : Cl) : (dropC m c).bk.length = m.bk.length := by
  show (dropBk m.bk c.line).length = _
  cases c.line with
  | none => rfl
  | some k => exact List.length_set ..
theorem sw_start {n : Nat} {m m' : M} {p : Nat} {acts : List Mth.Act} (hp : p < n) (h : StartR n m p m' acts) : Sw n m m' acts := by
  rcases h with ⟨rfl, c, rfl⟩ | ⟨g, a, hh, _, h2, _, _, rfl, rfl⟩
  · exact ⟨rfl, Nat.le_succ _, who_refuse hp, Wk.bl⟩
  · refine ⟨rfl, Nat.le_succ _, fun a ha => ?_, Wk.bl⟩
    simp only [List.mem_cons, List.not_mem_nil, or_false] at ha
    rcases ha with rfl | rfl
    · exact hp
    · exact h2
theorem start_good {n : Nat} {m m' : M} {p : Nat} {v : V} {r : List Msg} {acts : List Mth.Act} (G : Mth.Good n m) (hp : p < n) (hu : (m.pd p).up = .setup v :: r) (h1 : (m.pd p).li = true) (h2 : (m.pd p).re = false) (h : StartR n (m.set p { m.pd p with up := r }) p m' acts) : Mth.Good n (perf m' acts) := by
  rcases h with ⟨rfl, c, rfl⟩ | ⟨g, a, hh, ef, g1, g2, g3, rfl, rfl⟩
  · exact good_popsetup G hp hu h1 h2 c
  · exact good_start G hp hu h1 h2 (fnd_none ef) g1 g3 g2 a hh
theorem tell_sw {n : Nat} {m : M} {cs : List Cl} {acts : List Mth.Act} (hw : Who n acts) (hf : acts.length ≤ 8) : Sw n m { m with cs := cs } acts := ⟨rfl, Nat.le_succ _, hw, hf⟩
theorem nil_sw {n : Nat} {m : M} : Sw n m m [] := ⟨rfl, Nat.le_succ _, fun a ha => (nomatch ha), Nat.zero_le _⟩
theorem alert_good {n : Nat} {m : M} {p : Nat} (G : Mth.Good n m) (hA : Ads m.cs) : Mth.Good n (perf (alertR m p).1 (alertR m p).2) ∧ Sw n m (alertR m p).1 (alertR m p).2 := by
  unfold alertR
  cases ec : cin m.cs p [.offered] with
  | none => exact ⟨G, nil_sw⟩
  | some c =>
    obtain ⟨hc, hp, hs⟩ := cin_some ec
    refine ⟨good_alerting G hA hc hp (by simpa using hs), tell_sw (fun a ha => ?_) Wk.bl⟩
    simp only [List.mem_cons, List.not_mem_nil, or_false] at ha
    subst ha
    exact G.lt _ (sides_cr hc)
theorem conn_good {n : Nat} {m : M} {p : Nat} (G : Mth.Good n m) (hA : Ads m.cs) (hp0 : p < n) (hk : (∃ c ∈ m.cs, c.cd = some p ∧ c.st ≠ .looking) → (m.pd p).now ≠ .clearing → (m.pd p).now = .active ∨ (m.pd p).now = .ringing ∧ (m.pd p).mkd = true) : Mth.Good n (perf (connR m p).1 (connR m p).2) ∧ Sw n m (connR m p).1 (connR m p).2 := by
  unfold connR
  cases ec : cin m.cs p [.offered, .ringing] with
  | none => exact ⟨G, nil_sw⟩
  | some c =>
    obtain ⟨hc, hp, hs⟩ := cin_some ec
    have hs : c.st = .offered ∨ c.st = .ringing := by simpa using hs
    refine ⟨good_connect G hA hc hp hs (hk ⟨c, hc, hp, by rcases hs with z | z <;> (rw [z]; simp)⟩), tell_sw (fun a ha => ?_) Wk.bl⟩
    simp only [List.mem_cons, List.not_mem_nil, or_false] at ha
    rcases ha with rfl | rfl
    · exact hp0
    · exact G.lt _ (sides_cr hc)
theorem done_good {n : Nat} {m : M} {p : Nat} (G : Mth.Good n m) (hA : Ads m.cs) : Mth.Good n (doneR m p) ∧ Sw n m (doneR m p) [] := by
  unfold doneR
  cases ef : fnd m.cs p with
  | none => exact ⟨G, nil_sw⟩
  | some c =>
    dsimp only
    split
    · rename_i z
      refine ⟨good_connected G hA (fnd_some ef).1 z.2, rfl, ?_, fun a ha => (nomatch ha), Nat.zero_le _⟩
      show (m.bk ++ [true]).length ≤ _
      rw [List.length_append]
      exact Nat.le_refl _
    · exact ⟨G, nil_sw⟩
theorem other_lt {n : Nat} {m : M} (G : Mth.Good n m) {c : Cl} {p : Nat} (hc : c ∈ m.cs) : other c p < n := by
  obtain ⟨g, hg⟩ := G.cdS c hc
  unfold other
  split
  · rw [hg]
    exact G.lt _ (sides_cd hc hg)
  · exact G.lt _ (sides_cr hc)
theorem clr_len (c : Cl) (q : Nat) (cause : V) : (clr c q cause).length ≤ 2 := by
  unfold clr
  split <;> exact Wk.bl
theorem leave_sw {n : Nat} {m : M} {p : Nat} {cause : V} (G : Mth.Good n m) : Sw n m (leaveR m p cause).1 (leaveR m p cause).2 := by
  unfold leaveR
  cases ef : fnd m.cs p with
  | none => exact nil_sw
  | some c =>
    dsimp only
    split
    · refine ⟨rfl, ?_, fun a ha => ?_, Nat.le_trans (clr_len _ _ _) Wk.bl⟩
      · rw [drop_len]
        exact Nat.le_succ _
      · rw [clr_who a ha]
        exact other_lt G (fnd_some ef).1
    · exact nil_sw
theorem uniq_side {n : Nat} {m : M} (G : Mth.Good n m) {c e : Cl} {p : Nat} (hc : c ∈ m.cs) (he : e ∈ m.cs) (h1 : p = c.cr ∨ c.cd = some p) (h2 : p = e.cr ∨ e.cd = some p) : c = e := side_uniq G.nd hc he h1 h2
theorem disc_good {n : Nat} {m : M} {p : Nat} {cause : V} (G : Mth.Good n m) (hA : Ads m.cs) (h1 : (m.pd p).li = true) (h2 : (m.pd p).re = false) : Mth.Good n (perf (leaveR m p cause).1 (.release p :: (leaveR m p cause).2)) := by
  unfold leaveR
  cases ef : fnd m.cs p with
  | none => exact good_disc0 G h1 h2 fun c hc hp => absurd (hp.elim (fun z => z ▸ sides_cr hc) fun z => sides_cd hc z) (fnd_none ef)
  | some c =>
    obtain ⟨hc, hp⟩ := fnd_some ef
    dsimp only
    split
    · exact good_disc G hA h1 h2 hc hp cause
    · rename_i z
      exact good_disc0 G h1 h2 fun e he hpe hl => by
        have := uniq_side G hc he hp hpe
        rw [this] at z
        exact z hl
theorem lost_good {n : Nat} {m : M} {p : Nat} {c0 cause : V} (G : Mth.Good n m) (hA : Ads m.cs) : Mth.Good n (perf (leaveR (m.set p ((m.pd p).unlink c0)) p cause).1 (leaveR (m.set p ((m.pd p).unlink c0)) p cause).2) := by
  have fr : Free ((m.pd p).unlink c0) := ⟨fun _ => ⟨rfl, rfl, rfl⟩, fun z => nomatch z⟩
  unfold leaveR
  rw [show fnd (m.set p ((m.pd p).unlink c0)).cs p = fnd m.cs p from rfl]
  cases ef : fnd m.cs p with
  | none => exact good_free G (fun c hc hp => absurd (hp.elim (fun z => z ▸ sides_cr hc) fun z => sides_cd hc z) (fnd_none ef)) fr
  | some c =>
    obtain ⟨hc, hp⟩ := fnd_some ef
    dsimp only
    split
    · exact good_gone G hA hc hp cause fr
    · rename_i z
      exact good_free G (fun e he hpe hl => by
        have := uniq_side G hc he hp hpe
        rw [this] at z
        exact z hl) fr
theorem word_good {n : Nat} {m : M} {p : Nat} {x : V} {r : List Msg} (G : Mth.Good n m) (hA : Ads m.cs) (hu : (m.pd p).up = .word x :: r) : Mth.Good n (perf (m.set p { m.pd p with up := r }) (wordR (m.set p { m.pd p with up := r }) p x)) ∧ Sw n (m.set p { m.pd p with up := r }) (m.set p { m.pd p with up := r }) (wordR (m.set p { m.pd p with up := r }) p x) := by
  unfold wordR
  show Mth.Good n (perf _ (match fnd m.cs p with | none => [] | some c => if c.st.talk = true then [.tell (other c p) (.word x)] else [])) ∧ Sw n _ _ (match fnd m.cs p with | none => [] | some c => if c.st.talk = true then [.tell (other c p) (.word x)] else [])
  cases ef : fnd m.cs p with
  | none => exact ⟨good_pop G hu (fun v z => nomatch z) (.inr fun c hc hp => absurd (hp.elim (fun z => z ▸ sides_cr hc) fun z => sides_cd hc z) (fnd_none ef)), nil_sw⟩
  | some c =>
    obtain ⟨hc, hp⟩ := fnd_some ef
    dsimp only
    split
    · rename_i ht
      refine ⟨good_word G hA hc hp ht hu, rfl, Nat.le_succ _, fun a ha => ?_, Wk.bl⟩
      simp only [List.mem_cons, List.not_mem_nil, or_false] at ha
      subst ha
      exact other_lt G hc
    · rename_i ht
      refine ⟨good_pop G hu (fun v z => nomatch z) (.inr fun e he hpe => ?_), nil_sw⟩
      have := uniq_side G hc he hp hpe
      rw [← this]
      simpa using ht
end Wk
end
section
set_option Elab.async false
set_option linter.all false
set_option maxRecDepth 100000
/-! The walk: one message up, done. -/
namespace Wk
open PySem L2 He Mth Fl Wl Tx PyProof.Rows
section
variable {P : Program} {w : World} {K : PySem.W.Frag} {mg : Str → Option Value} {base : Heap} {F : Fx}
def spUp (K : PySem.W.Frag) : Sp := fun vs H Q _ => ∃ (F : Fx) (B : Hp) (m : M) (p : Nat) (t : Int) (N : Nat), vs = [.ref F.wd, natV p, .int t] ∧ Wd K F B m H ∧ Mth.Good F.n m ∧ p < F.n ∧ Lim F.n N m ∧ N ≤ 900000 ∧
  ∀ B' H' m', Same B B' → Mth.Good F.n m' → Lim F.n (N + 64) m' → Wd K F B' m' H' → Q .non H'
theorem up_list {B : Hp} {as : List Addr} {x : Msg} {r : List Msg} (h : QAt B as (x :: r)) : ∃ a as', as = a :: as' ∧ MsgAt B a x ∧ QAt B as' r := by
  cases h with
  | cons h t => exact ⟨_, _, rfl, h, t⟩
theorem up_nil {B : Hp} {as : List Addr} (h : QAt B as []) : as = [] := by
  cases h
  rfl
theorem ok_law_up (T : Txt K mg) : Has P w K mg base CX0 6 (ga K "_law_up") ["_law_world", "_law_person", "_law_tick"] (spUp K) := by
  obtain ⟨fd, Fn⟩ := fd_law_up T
  refine ⟨fd, Fn.ok sc_law_up (fun vs H Q E h => ?_) (fun cdv A outer s H vs Q E hr h => ?_), bi_law_up Fn, Fn.kp⟩
  · obtain ⟨F, B, m, p, t, N, rfl, _⟩ := h
    rfl
  · obtain ⟨F, B, m, p, t, N, rfl, W, G0, hp, hL, hN, k⟩ := h
    obtain ⟨_, G_Switch_start, b_Switch_start, k_Switch_start⟩ := ok_Switch_start (P := P) (w := w) (base := base) (F := F) T
    obtain ⟨_, G_law_linked, b_law_linked, k_law_linked⟩ := ok_law_linked (P := P) (w := w) (base := base) (F := F) T
    obtain ⟨_, G_Switch_alerting, b_Switch_alerting, k_Switch_alerting⟩ := ok_Switch_alerting (P := P) (w := w) (base := base) (F := F) T
    obtain ⟨_, G_Switch_connect, b_Switch_connect, k_Switch_connect⟩ := ok_Switch_connect (P := P) (w := w) (base := base) (F := F) T
    obtain ⟨_, G_Switch_connected, b_Switch_connected, k_Switch_connected⟩ := ok_Switch_connected (P := P) (w := w) (base := base) (F := F) T
    obtain ⟨_, G_Switch_word, b_Switch_word, k_Switch_word⟩ := ok_Switch_word (P := P) (w := w) (base := base) (F := F) T
    obtain ⟨_, G_Switch_disconnect, b_Switch_disconnect, k_Switch_disconnect⟩ := ok_Switch_disconnect (P := P) (w := w) (base := base) (F := F) T
    obtain ⟨_, G_law_perform, b_law_perform, k_law_perform⟩ := ok_law_perform (P := P) (w := w) (base := base) (F := F) T
    have W' := W
    obtain ⟨L, U⟩ := W'
    refine ⟨_, PSs.nox (pss_cons (ps_if (PW.pt (pw_or (pt_cmpR (op_eqR (Nat.lt_of_succ_lt (hu_of hr))) (pe_ix ix_list (pe_dget (hu_of hr) (pv 0) pe_str (fun _ _ => rfl)) (pv 1) (fun _ _ => rfl)) (pe_lst pa_nil) (nomark _)) (pw_or1 (pt_not (pt_val (pe_ix ix_list (pe_dget (hu_of hr) (pv 0) pe_str (fun _ _ => rfl)) (pv 1) (fun _ _ => rfl)))))))
      (pss_one (ps_retN))
      pss_nil)
    (pss_cons (ps_set (i := 3) sc_law_up.nd rfl (Or.inl rfl) (pe_bm PySem.F.plainAttrs_list PySem.F.slot_list_pop PySem.F.type_list_pop mt_popAt (pe_ix ix_list (pe_dget (hu_of hr) (pv 0) pe_str (fun _ _ => rfl)) (pv 1) (fun _ _ => rfl)) (pa_cons pe_int pa_nil)))
    (pss_cons (ps_set (i := 4) sc_law_up.nd rfl (Or.inl rfl) (pe_dget (hu_of hr) (pv 0) pe_str (fun _ _ => rfl)))
    (pss_cons (ps_set (i := 5) sc_law_up.nd rfl (Or.inl rfl) (pe_lst pa_nil))
    (pss_cons (ps_if (pt_not (pt_val (pe_ix ix_list (pe_dget (hu_of hr) (pv 0) pe_str (fun _ _ => rfl)) (pv 1) (fun _ _ => rfl))))
      (pss_cons (ps_if (pt_cmpR op_eq (pe_ix ix_tup (pv 3) pe_int (fun _ _ => rfl)) pe_str (nomark _))
        (pss_one (ps_set (i := 5) sc_law_up.nd rfl (Or.inl rfl) (pe_meth (pv 4) (cl_Switch T) (me_Switch_start T) G_Switch_start (hr.mono (by decide)) b_Switch_start .nil pass0 (pa_cons (pv 1) (pa_cons (pe_ix ix_tup (pv 3) pe_int (fun _ _ => rfl)) (pa_cons (pe_call G_law_linked (hr.mono (by decide)) rfl (mg_law_linked T) k_law_linked b_law_linked .nil pass0 (pa_cons (pv 0) pa_nil)) (pa_cons (pv 2) pa_nil)))))))
        pss_nil)
      (pss_cons (ps_if (pt_cmpR op_eq (pe_ix ix_tup (pv 3) pe_int (fun _ _ => rfl)) pe_str (nomark _))
        (pss_one (ps_set (i := 5) sc_law_up.nd rfl (Or.inl rfl) (pe_meth (pv 4) (cl_Switch T) (me_Switch_alerting T) G_Switch_alerting (hr.mono (by decide)) b_Switch_alerting .nil pass0 (pa_cons (pv 1) pa_nil))))
        pss_nil)
      (pss_cons (ps_if (pt_cmpR op_eq (pe_ix ix_tup (pv 3) pe_int (fun _ _ => rfl)) pe_str (nomark _))
        (pss_one (ps_set (i := 5) sc_law_up.nd rfl (Or.inl rfl) (pe_meth (pv 4) (cl_Switch T) (me_Switch_connect T) G_Switch_connect (hr.mono (by decide)) b_Switch_connect .nil pass0 (pa_cons (pv 1) pa_nil))))
        pss_nil)
      (pss_cons (ps_if (pt_cmpR op_eq (pe_ix ix_tup (pv 3) pe_int (fun _ _ => rfl)) pe_str (nomark _))
        (pss_one (ps_set (i := 5) sc_law_up.nd rfl (Or.inl rfl) (pe_meth (pv 4) (cl_Switch T) (me_Switch_connected T) G_Switch_connected (hr.mono (by decide)) b_Switch_connected .nil pass0 (pa_cons (pv 1) (pa_cons (pv 2) pa_nil)))))
        pss_nil)
      (pss_cons (ps_if (pt_cmpR op_eq (pe_ix ix_tup (pv 3) pe_int (fun _ _ => rfl)) pe_str (nomark _))
        (pss_one (ps_set (i := 5) sc_law_up.nd rfl (Or.inl rfl) (pe_meth (pv 4) (cl_Switch T) (me_Switch_word T) G_Switch_word (hr.mono (by decide)) b_Switch_word .nil pass0 (pa_cons (pv 1) (pa_cons (pe_ix ix_tup (pv 3) pe_int (fun _ _ => rfl)) pa_nil)))))
        pss_nil)
      (pss_one (ps_if (pt_cmpR op_eq (pe_ix ix_tup (pv 3) pe_int (fun _ _ => rfl)) pe_str (nomark _))
        (pss_one (ps_set (i := 5) sc_law_up.nd rfl (Or.inl rfl) (pe_meth (pv 4) (cl_Switch T) (me_Switch_disconnect T) G_Switch_disconnect (hr.mono (by decide)) b_Switch_disconnect .nil pass0 (pa_cons (pv 1) (pa_cons (pe_ix ix_tup (pv 3) pe_int (fun _ _ => rfl)) (pa_cons (pv 2) pa_nil))))))
        pss_nil)))))))
      pss_nil)
    (pss_one (ps_expr (pe_call G_law_perform (hr.mono (by decide)) rfl (mg_law_perform T) k_law_perform b_law_perform .nil pass0 (pa_cons (pv 0) (pa_cons (pv 5) pa_nil)))))))))), ?_⟩
    have hq := (U.fine p hp).up
    have n5 := U.base.five
    refine ⟨_, rfl, F.wd, _, rfl, dg U.atWd "up" wUp, _, rfl, F.up, _, _, _, rfl, rfl, SqL.of U.atUp, rng_at hp, Wk.bl, fun e ne => ?_⟩
    have s1 := same_upd (o := .lst []) ne
    have U1 := U.grow s1
    refine ⟨L.ad (.upq p), e, _, [], rfl, rfl, SqL.of (U1.atUpq hp), SqL.of upd_same, ?_⟩
    have stop : Q .non (upd H e (.lst [])) := k B _ m (Same.refl _) G0 (hL.mono (by omega)) ⟨_, U1⟩
    cases hup : (m.pd p).up with
    | nil =>
      rw [hup] at hq
      rw [up_nil hq]
      exact .inl ⟨rfl, fun v hv => (nomatch hv), _, rfl, stop⟩
    | cons x r =>
      rw [hup] at hq
      obtain ⟨a0, as, ha, hM, hq2⟩ := up_list hq
      rw [ha]
      refine .inr ⟨by simp, _, rfl, ?_⟩
      refine ⟨_, rfl, F.wd, _, rfl, dg U1.atWd "linked" wLi, _, rfl, F.li, _, _, _, rfl, rfl, SqL.of U1.atLi, rng_at hp, (m.pd p).li, rfl, ?_⟩
      cases hli : (m.pd p).li with
      | false => exact stop
      | true =>
        have hcur := U1.atUpq hp
        rw [ha] at hcur
        refine ⟨_, rfl, F.wd, _, rfl, dg U1.atWd "up" wUp, _, rfl, F.up, _, _, _, rfl, rfl, SqL.of U1.atUp, rng_at hp, .inl ⟨rfl, _, SqL.of hcur⟩, _, _, 0, 0, .ref a0, rfl, rfl, hcur, by decide, by decide, (ixN_seq (ixN_at (j := 0) (by simp))).1, rfl, ?_⟩
        have U2 := U1.setUp hp (as := as) (xs := r) hq2
        refine ⟨_, rfl, F.wd, _, rfl, dg U2.atWd "switch" wSw, Wk.bl, fun l0 nl0 => ?_⟩
        obtain ⟨U3, s3⟩ := U2.imm nl0 (.lst [])
        have hl0 : upd B l0 (.lst []) l0 = some (.lst []) := upd_same
        generalize upd B l0 (.lst []) = B3 at U3 s3 hl0
        have W3 : Wd K F B3 (m.set p { m.pd p with up := r }) _ := ⟨_, U3⟩
        have hM3 := hM.mono s3
        have hx3 := U3.same _ _ hM3.at_
        -- the end: what was told is done
        have tail : ∀ (B4 H4 : Hp) (m4 : M) (l4 : Addr) (acts : List Mth.Act), Same B3 B4 → Wd K F B4 m4 H4 → ActsAt B4 l4 acts → Sw F.n (m.set p { m.pd p with up := r }) m4 acts → Mth.Good F.n (perf m4 acts) → spPerf K F [.ref F.wd, .ref l4] H4 (fun _ H => Q .non H) E0 := fun B4 H4 m4 l4 acts s4 W4 hA S4 G4 => by
          have L1 : Lim F.n N (m.set p { m.pd p with up := r }) := by
            refine hL.set p ?_ (hL.dn p hp) (hL.said p hp) (hL.heard p hp)
            have := hL.up p hp
            rw [hup] at this
            exact Nat.le_of_succ_le this
          have L4 : Lim F.n (N + 1) m4 := (L1.mono (Nat.le_succ N)).sw S4.pd (Nat.le_trans S4.bk (Nat.add_le_add_right L1.bk 1))
          have few := S4.few
          refine ⟨B4, m4, l4, acts, rfl, W4, hA, S4.who, fun j hj => ?_, fun B5 H5 s5 W5 => ?_⟩
          · have := L4.dn j hj
            omega
          · exact k _ _ _ ((s3.trans s4).trans s5) G4 ((L4.perf acts).mono (by omega)) W5
        refine ⟨_, rfl, F.wd, _, rfl, dg U3.atWd "released" wRe, _, rfl, F.re, _, _, _, rfl, rfl, SqL.of U3.atRe, rng_at hp, ((m.set p { m.pd p with up := r }).pd p).re, rfl, ?_⟩
        have er : ((m.set p { m.pd p with up := r }).pd p).re = (m.pd p).re := by rw [set_same]
        rw [er]
        cases hre : (m.pd p).re with
        | true =>
          refine ⟨_, rfl, _, rfl, tail B3 _ _ l0 [] (Same.refl _) W3 (acts_nil hl0) nil_sw ?_⟩
          exact G0.loc (Loc.of_re hre hli hre hli)
        | false =>
          have A3 := U3.ads
          have pop : (∀ v, x ≠ .setup v) → (∀ w, x ≠ .word w) → Mth.Good F.n (m.set p { m.pd p with up := r }) := fun z1 z2 => good_pop G0 hup z1 (.inl z2)
          have C3 : Cs (m.set p { m.pd p with up := r }) := (good_cs G0 n5 |> fun q => ⟨q.cd, q.bk, q.few⟩)
          have li3 : ((m.set p { m.pd p with up := r }).pd p).li = true := by rw [set_same]; exact hli
          have re3 : ((m.set p { m.pd p with up := r }).pd p).re = false := by rw [set_same]; exact hre
          have fl := hM3.fine
          cases x with
          | setup v =>
            refine ⟨_, rfl, a0, _, _, _, rfl, rfl, SqT.of hx3, atI_nat (j := 0) rfl, rfl, _, rfl, tT rfl ?_⟩
            refine ⟨_, rfl, F.sw, _, _, rfl, U3.atSw, mSwitch_start, _, rfl, _, rfl, a0, _, _, v, rfl, rfl, SqT.of hx3, atI_nat (j := 1) rfl, _, rfl, B3, _, rfl, W3, fun H4 l4 ls s4 nl4 h4 hls => ?_⟩
            obtain ⟨B4, sB4, W4, hl4⟩ : ∃ B4, Same B3 B4 ∧ Wd K F B4 (m.set p { m.pd p with up := r }) H4 ∧ B4 l4 = some (.lst (ls.map natV)) := by
              have U4 := U3.grow s4
              have fr : Fr K F B3 _ (m.set p { m.pd p with up := r }) l4 := U3.fr nl4
              obtain ⟨U5, s5⟩ := freeze U4 h4 fr
              exact ⟨_, s5, ⟨_, U5⟩, upd_same⟩
            refine ⟨_, rfl, B4, _, p, v, l4, ls, _, rfl, W4, C3, fl, hl4, Nat.le_trans hls Wk.bl, fun B5 H5 l5 m5 acts s5 hS W5 hA5 => ?_⟩
            have hx5 := (Exists.elim W5 fun _ u => u.same _ _ (s5 _ _ (sB4 _ _ hM3.at_)))
            refine ⟨_, rfl, a0, _, _, _, rfl, rfl, SqT.of hx5, atI_nat (j := 0) rfl, rfl, _, rfl, sNe (x := "setup") (by decide +kernel) ?_⟩
            refine ⟨_, rfl, a0, _, _, _, rfl, rfl, SqT.of hx5, atI_nat (j := 0) rfl, rfl, _, rfl, sNe (x := "setup") (by decide +kernel) ?_⟩
            refine ⟨_, rfl, a0, _, _, _, rfl, rfl, SqT.of hx5, atI_nat (j := 0) rfl, rfl, _, rfl, sNe (x := "setup") (by decide +kernel) ?_⟩
            refine ⟨_, rfl, a0, _, _, _, rfl, rfl, SqT.of hx5, atI_nat (j := 0) rfl, rfl, _, rfl, sNe (x := "setup") (by decide +kernel) ?_⟩
            refine ⟨_, rfl, a0, _, _, _, rfl, rfl, SqT.of hx5, atI_nat (j := 0) rfl, rfl, _, rfl, sNe (x := "setup") (by decide +kernel) ?_⟩
            exact ⟨_, rfl, _, rfl, tail B5 _ m5 l5 acts (sB4.trans s5) W5 hA5 (sw_start hp hS) (start_good G0 hp hup hli hre hS)⟩
          | alerting =>
            have G1 := pop (fun v z => nomatch z) fun w z => nomatch z
            have ag := alert_good (p := p) G1 A3
            refine ⟨_, rfl, a0, _, _, _, rfl, rfl, SqT.of hx3, atI_nat (j := 0) rfl, rfl, _, rfl, sNe (x := "alerting") (by decide +kernel) ?_⟩
            refine ⟨_, rfl, a0, _, _, _, rfl, rfl, SqT.of hx3, atI_nat (j := 0) rfl, rfl, _, rfl, tT rfl ?_⟩
            refine ⟨_, rfl, F.sw, _, _, rfl, U3.atSw, mSwitch_alerting, _, rfl, B3, _, p, rfl, W3, fun B5 H5 l5 s5 W5 hA5 => ?_⟩
            have hx5 := (Exists.elim W5 fun _ u => u.same _ _ (s5 _ _ hM3.at_))
            refine ⟨_, rfl, a0, _, _, _, rfl, rfl, SqT.of hx5, atI_nat (j := 0) rfl, rfl, _, rfl, sNe (x := "alerting") (by decide +kernel) ?_⟩
            refine ⟨_, rfl, a0, _, _, _, rfl, rfl, SqT.of hx5, atI_nat (j := 0) rfl, rfl, _, rfl, sNe (x := "alerting") (by decide +kernel) ?_⟩
            refine ⟨_, rfl, a0, _, _, _, rfl, rfl, SqT.of hx5, atI_nat (j := 0) rfl, rfl, _, rfl, sNe (x := "alerting") (by decide +kernel) ?_⟩
            refine ⟨_, rfl, a0, _, _, _, rfl, rfl, SqT.of hx5, atI_nat (j := 0) rfl, rfl, _, rfl, sNe (x := "alerting") (by decide +kernel) ?_⟩
            exact ⟨_, rfl, _, rfl, tail B5 _ _ l5 _ s5 W5 hA5 ag.2 ag.1⟩
          | connect =>
            have G1 := pop (fun v z => nomatch z) fun w z => nomatch z
            have ag := conn_good (p := p) G1 A3 hp (by
              rintro ⟨c, hc, hcd, hst⟩ hcl
              rw [set_same] at hcl ⊢
              have kd := (G0.call c hc p hcd).cd hst
              exact (kd.ok hcl).mk2 (by rw [hup]; exact List.mem_cons_self))
            refine ⟨_, rfl, a0, _, _, _, rfl, rfl, SqT.of hx3, atI_nat (j := 0) rfl, rfl, _, rfl, sNe (x := "connect") (by decide +kernel) ?_⟩
            refine ⟨_, rfl, a0, _, _, _, rfl, rfl, SqT.of hx3, atI_nat (j := 0) rfl, rfl, _, rfl, sNe (x := "connect") (by decide +kernel) ?_⟩
            refine ⟨_, rfl, a0, _, _, _, rfl, rfl, SqT.of hx3, atI_nat (j := 0) rfl, rfl, _, rfl, tT rfl ?_⟩
            refine ⟨_, rfl, F.sw, _, _, rfl, U3.atSw, mSwitch_connect, _, rfl, B3, _, p, rfl, W3, fun B5 H5 l5 s5 W5 hA5 => ?_⟩
            have hx5 := (Exists.elim W5 fun _ u => u.same _ _ (s5 _ _ hM3.at_))
            refine ⟨_, rfl, a0, _, _, _, rfl, rfl, SqT.of hx5, atI_nat (j := 0) rfl, rfl, _, rfl, sNe (x := "connect") (by decide +kernel) ?_⟩
            refine ⟨_, rfl, a0, _, _, _, rfl, rfl, SqT.of hx5, atI_nat (j := 0) rfl, rfl, _, rfl, sNe (x := "connect") (by decide +kernel) ?_⟩
            refine ⟨_, rfl, a0, _, _, _, rfl, rfl, SqT.of hx5, atI_nat (j := 0) rfl, rfl, _, rfl, sNe (x := "connect") (by decide +kernel) ?_⟩
            exact ⟨_, rfl, _, rfl, tail B5 _ _ l5 _ s5 W5 hA5 ag.2 ag.1⟩
          | cdone =>
            have G1 := pop (fun v z => nomatch z) fun w z => nomatch z
            have ag := done_good (p := p) G1 A3
            refine ⟨_, rfl, a0, _, _, _, rfl, rfl, SqT.of hx3, atI_nat (j := 0) rfl, rfl, _, rfl, sNe (x := "connect done") (by decide +kernel) ?_⟩
            refine ⟨_, rfl, a0, _, _, _, rfl, rfl, SqT.of hx3, atI_nat (j := 0) rfl, rfl, _, rfl, sNe (x := "connect done") (by decide +kernel) ?_⟩
            refine ⟨_, rfl, a0, _, _, _, rfl, rfl, SqT.of hx3, atI_nat (j := 0) rfl, rfl, _, rfl, sNe (x := "connect done") (by decide +kernel) ?_⟩
            refine ⟨_, rfl, a0, _, _, _, rfl, rfl, SqT.of hx3, atI_nat (j := 0) rfl, rfl, _, rfl, tT rfl ?_⟩
            refine ⟨_, rfl, F.sw, _, _, rfl, U3.atSw, mSwitch_connected, _, rfl, _, rfl, B3, _, p, t, rfl, W3, Nat.le_trans hL.bk (by omega), fun B5 H5 l5 s5 W5 hA5 => ?_⟩
            have hx5 := (Exists.elim W5 fun _ u => u.same _ _ (s5 _ _ hM3.at_))
            refine ⟨_, rfl, a0, _, _, _, rfl, rfl, SqT.of hx5, atI_nat (j := 0) rfl, rfl, _, rfl, sNe (x := "connect done") (by decide +kernel) ?_⟩
            refine ⟨_, rfl, a0, _, _, _, rfl, rfl, SqT.of hx5, atI_nat (j := 0) rfl, rfl, _, rfl, sNe (x := "connect done") (by decide +kernel) ?_⟩
            exact ⟨_, rfl, _, rfl, tail B5 _ _ l5 _ s5 W5 hA5 ag.2 ag.1⟩
          | word v =>
            have ag := word_good G0 U.ads hup
            refine ⟨_, rfl, a0, _, _, _, rfl, rfl, SqT.of hx3, atI_nat (j := 0) rfl, rfl, _, rfl, sNe (x := "word") (by decide +kernel) ?_⟩
            refine ⟨_, rfl, a0, _, _, _, rfl, rfl, SqT.of hx3, atI_nat (j := 0) rfl, rfl, _, rfl, sNe (x := "word") (by decide +kernel) ?_⟩
            refine ⟨_, rfl, a0, _, _, _, rfl, rfl, SqT.of hx3, atI_nat (j := 0) rfl, rfl, _, rfl, sNe (x := "word") (by decide +kernel) ?_⟩
            refine ⟨_, rfl, a0, _, _, _, rfl, rfl, SqT.of hx3, atI_nat (j := 0) rfl, rfl, _, rfl, sNe (x := "word") (by decide +kernel) ?_⟩
            refine ⟨_, rfl, a0, _, _, _, rfl, rfl, SqT.of hx3, atI_nat (j := 0) rfl, rfl, _, rfl, tT rfl ?_⟩
            refine ⟨_, rfl, F.sw, _, _, rfl, U3.atSw, mSwitch_word, _, rfl, _, rfl, a0, _, _, v, rfl, rfl, SqT.of hx3, atI_nat (j := 1) rfl, B3, _, p, v, rfl, W3, fl, C3.cd, fun B5 H5 l5 s5 W5 hA5 => ?_⟩
            have hx5 := (Exists.elim W5 fun _ u => u.same _ _ (s5 _ _ hM3.at_))
            refine ⟨_, rfl, a0, _, _, _, rfl, rfl, SqT.of hx5, atI_nat (j := 0) rfl, rfl, _, rfl, sNe (x := "word") (by decide +kernel) ?_⟩
            exact ⟨_, rfl, _, rfl, tail B5 _ _ l5 _ s5 W5 hA5 ag.2 ag.1⟩
          | disc c =>
            have G1 := pop (fun v z => nomatch z) fun w z => nomatch z
            have sw := leave_sw (p := p) (cause := c) G1
            have dg1 := disc_good (p := p) (cause := c) G1 A3 li3 re3
            have ll := leave_len (m.set p { m.pd p with up := r }) p c
            refine ⟨_, rfl, a0, _, _, _, rfl, rfl, SqT.of hx3, atI_nat (j := 0) rfl, rfl, _, rfl, sNe (x := "disconnect") (by decide +kernel) ?_⟩
            refine ⟨_, rfl, a0, _, _, _, rfl, rfl, SqT.of hx3, atI_nat (j := 0) rfl, rfl, _, rfl, sNe (x := "disconnect") (by decide +kernel) ?_⟩
            refine ⟨_, rfl, a0, _, _, _, rfl, rfl, SqT.of hx3, atI_nat (j := 0) rfl, rfl, _, rfl, sNe (x := "disconnect") (by decide +kernel) ?_⟩
            refine ⟨_, rfl, a0, _, _, _, rfl, rfl, SqT.of hx3, atI_nat (j := 0) rfl, rfl, _, rfl, sNe (x := "disconnect") (by decide +kernel) ?_⟩
            refine ⟨_, rfl, a0, _, _, _, rfl, rfl, SqT.of hx3, atI_nat (j := 0) rfl, rfl, _, rfl, sNe (x := "disconnect") (by decide +kernel) ?_⟩
            refine ⟨_, rfl, a0, _, _, _, rfl, rfl, SqT.of hx3, atI_nat (j := 0) rfl, rfl, _, rfl, tT rfl ?_⟩
            refine ⟨_, rfl, F.sw, _, _, rfl, U3.atSw, mSwitch_disconnect, _, rfl, _, rfl, a0, _, _, c, rfl, rfl, SqT.of hx3, atI_nat (j := 1) rfl, _, rfl, B3, _, p, c, t, rfl, fl, W3, C3, fun B5 H5 l5 s5 W5 hA5 => ?_⟩
            refine ⟨_, rfl, _, rfl, tail B5 _ _ l5 _ s5 W5 hA5 ⟨sw.pd, sw.bk, fun a ha => ?_, by rw [List.length_cons]; omega⟩ dg1⟩
            rcases List.mem_cons.mp ha with rfl | ha
            · exact hp
            · exact sw.who a ha
          | _ =>
            have G1 := pop (fun v z => nomatch z) fun w z => nomatch z
            refine ⟨_, rfl, a0, _, _, _, rfl, rfl, SqT.of hx3, atI_nat (j := 0) rfl, rfl, _, rfl, tF (fun z => absurd (kind_of (y := .setup .non) (str_inj z)) (by decide)) ?_⟩
            refine ⟨_, rfl, a0, _, _, _, rfl, rfl, SqT.of hx3, atI_nat (j := 0) rfl, rfl, _, rfl, tF (fun z => absurd (kind_of (y := .alerting) (str_inj z)) (by decide)) ?_⟩
            refine ⟨_, rfl, a0, _, _, _, rfl, rfl, SqT.of hx3, atI_nat (j := 0) rfl, rfl, _, rfl, tF (fun z => absurd (kind_of (y := .connect) (str_inj z)) (by decide)) ?_⟩
            refine ⟨_, rfl, a0, _, _, _, rfl, rfl, SqT.of hx3, atI_nat (j := 0) rfl, rfl, _, rfl, tF (fun z => absurd (kind_of (y := .cdone) (str_inj z)) (by decide)) ?_⟩
            refine ⟨_, rfl, a0, _, _, _, rfl, rfl, SqT.of hx3, atI_nat (j := 0) rfl, rfl, _, rfl, tF (fun z => absurd (kind_of (y := .word .non) (str_inj z)) (by decide)) ?_⟩
            refine ⟨_, rfl, a0, _, _, _, rfl, rfl, SqT.of hx3, atI_nat (j := 0) rfl, rfl, _, rfl, tF (fun z => absurd (kind_of (y := .disc .non) (str_inj z)) (by decide)) ?_⟩
            exact ⟨_, rfl, _, rfl, tail B3 _ _ l0 [] (Same.refl _) W3 (acts_nil hl0) nil_sw G1⟩
end
end Wk
end
section
set_option Elab.async false
set_option linter.all false
set_option maxRecDepth 100000
/-! The walk: one message down. -/
namespace Wk
open PySem L2 He Mth Fl Wl Tx PyProof.Rows
theorem move_keep (d : Pd) (x : Msg) : (d.move x).1.up = d.up ∧ (d.move x).1.dn = d.dn ∧ (d.move x).1.said.length ≤ d.said.length ∧ (d.move x).1.heard.length ≤ d.heard.length + 1 ∧ (d.move x).2.length ≤ 1 := by
  unfold Pd.move
  split <;> refine ⟨rfl, rfl, ?_, ?_, ?_⟩ <;> first | exact Nat.le_refl _ | exact Nat.le_succ _ | exact Nat.zero_le _
theorem take_keep (d : Pd) (x : Msg) : (d.take x).1.up = d.up ∧ (d.take x).1.dn = d.dn ∧ (d.take x).1.said.length ≤ d.said.length ∧ (d.take x).1.heard.length ≤ d.heard.length + 1 ∧ (d.take x).2.length ≤ 1 := by
  cases x with
  | setup v => exact move_keep d _
  | proceeding => exact move_keep d _
  | alerting => exact move_keep d _
  | connect => exact move_keep d _
  | rel => exact move_keep d _
  | disc c =>
    unfold Pd.take
    dsimp only
    split <;> refine ⟨rfl, rfl, ?_, ?_, ?_⟩ <;> first | exact Nat.le_refl _ | exact Nat.le_succ _ | exact Nat.zero_le _
  | word v =>
    unfold Pd.take
    dsimp only
    split
    · refine ⟨rfl, rfl, Nat.le_refl _, ?_, Nat.zero_le _⟩
      show (d.heard ++ [v]).length ≤ _
      rw [List.length_append]
      exact Nat.le_refl _
    · exact ⟨rfl, rfl, Nat.le_refl _, Nat.le_succ _, Nat.zero_le _⟩
  | sacc =>
    unfold Pd.take
    dsimp only
    split <;> refine ⟨rfl, rfl, ?_, ?_, ?_⟩ <;> first | exact Nat.le_refl _ | exact Nat.le_succ _ | exact Nat.zero_le _
  | cdone =>
    unfold Pd.take
    dsimp only
    split <;> refine ⟨rfl, rfl, ?_, ?_, ?_⟩ <;> first | exact Nat.le_refl _ | exact Nat.le_succ _ | exact Nat.zero_le _
theorem down_cons {d : Pd} {x : Msg} {r : List Msg} (h : d.dn = x :: r) (hx : x ≠ .rel) : d.down = { ({ d with dn := r }.take x).1 with up := d.up ++ ({ d with dn := r }.take x).2 } := by
  unfold Pd.down
  rw [h]
  cases x <;> first | rfl | exact absurd rfl hx
theorem down_rel {d : Pd} {r : List Msg} (h : d.dn = .rel :: r) : d.down = d.unlink .non := by
  unfold Pd.down
  rw [h]
section
variable {P : Program} {w : World} {K : PySem.W.Frag} {mg : Str → Option Value} {base : Heap} {F : Fx}
theorem setUpW {B H : Hp} {m : M} {p : Nat} {L : Lay} (U : WL K F B L m H) (hp : p < F.n) {as : List Addr} {xs : List Msg} (k : QAt B as xs) : Wd K F B (m.set p { m.pd p with up := xs }) (upd H (L.ad (.upq p)) (.lst (as.map V.ref))) := ⟨_, U.setUp hp k⟩
def spDown (K : PySem.W.Frag) : Sp := fun vs H Q _ => ∃ (F : Fx) (B : Hp) (m : M) (p : Nat) (N : Nat), vs = [.ref F.wd, natV p] ∧ Wd K F B m H ∧ Mth.Good F.n m ∧ p < F.n ∧ Lim F.n N m ∧ N ≤ 900000 ∧
  ∀ B' H' m', Same B B' → Mth.Good F.n m' → Lim F.n (N + 64) m' → Wd K F B' m' H' → Q .non H'
theorem ok_law_down (N0 : NextIn P w K (ga K "NEXT")) (T : Txt K mg) : Has P w K mg base CX0 4 (ga K "_law_down") ["_law_world", "_law_person"] (spDown K) := by
  obtain ⟨fd, Fn⟩ := fd_law_down T
  refine ⟨fd, Fn.ok sc_law_down (fun vs H Q E h => ?_) (fun cdv A outer s H vs Q E hr h => ?_), bi_law_down Fn, Fn.kp⟩
  · obtain ⟨F, B, m, p, N, rfl, _⟩ := h
    rfl
  · obtain ⟨F, B, m, p, N, rfl, W, G0, hp, hL, hN, k⟩ := h
    obtain ⟨_, G_law_unlink, b_law_unlink, k_law_unlink⟩ := ok_law_unlink (P := P) (w := w) (base := base) (F := F) T
    obtain ⟨_, G_PhoneCall_take, b_PhoneCall_take, k_PhoneCall_take⟩ := ok_PhoneCall_take (base := base) (F := F) N0 T
    have W' := W
    obtain ⟨L, U⟩ := W'
    refine ⟨_, PSs.nox (pss_cons (ps_if (pt_cmpR (op_eqR (Nat.lt_of_succ_lt (hu_of hr))) (pe_ix ix_list (pe_dget (hu_of hr) (pv 0) pe_str (fun _ _ => rfl)) (pv 1) (fun _ _ => rfl)) (pe_lst pa_nil) (nomark _))
      (pss_one (ps_retN))
      pss_nil)
    (pss_cons (ps_set (i := 2) sc_law_down.nd rfl (Or.inl rfl) (pe_bm PySem.F.plainAttrs_list PySem.F.slot_list_pop PySem.F.type_list_pop mt_popAt (pe_ix ix_list (pe_dget (hu_of hr) (pv 0) pe_str (fun _ _ => rfl)) (pv 1) (fun _ _ => rfl)) (pa_cons pe_int pa_nil)))
    (pss_one (ps_if (pt_cmpR op_eq (pe_ix ix_tup (pv 2) pe_int (fun _ _ => rfl)) pe_str (nomark _))
      (pss_one (ps_expr (pe_call G_law_unlink (hr.mono (by decide)) rfl (mg_law_unlink T) k_law_unlink b_law_unlink .nil pass0 (pa_cons (pv 0) (pa_cons (pv 1) (pa_cons pe_non pa_nil))))))
      (pss_one (ps_for PassesOwn.never rfl (pi_list (pe_meth (pe_ix ix_list (pe_dget (hu_of hr) (pv 0) pe_str (fun _ _ => rfl)) (pv 1) (fun _ _ => rfl)) (cl_PhoneCall T) (me_PhoneCall_take T) G_PhoneCall_take (hr.mono (by decide)) b_PhoneCall_take .nil pass0 (pa_cons (pv 2) pa_nil))) (pg_name (i := 3) sc_law_down.nd rfl (Or.inl rfl))
        (pss_one (ps_expr (pe_bm PySem.F.plainAttrs_list PySem.F.slot_list_append PySem.F.type_list_append mt_append (pe_ix ix_list (pe_dget (hu_of hr) (pv 0) pe_str (fun _ _ => rfl)) (pv 1) (fun _ _ => rfl)) (pa_cons (pv 3) pa_nil)))))))))), ?_⟩
    have hq := (U.fine p hp).dn
    refine ⟨_, rfl, F.wd, _, rfl, dg U.atWd "down" wDn, _, rfl, F.dn, _, _, _, rfl, rfl, SqL.of U.atDn, rng_at hp, Wk.bl, fun e ne => ?_⟩
    have s1 := same_upd (o := .lst []) ne
    have U1 := U.grow s1
    refine ⟨L.ad (.dnq p), e, _, [], rfl, rfl, SqL.of (U1.atDnq hp), SqL.of upd_same, ?_⟩
    have stop : Q .non (upd H e (.lst [])) := k B _ m (Same.refl _) G0 (hL.mono (by omega)) ⟨_, U1⟩
    cases hdn : (m.pd p).dn with
    | nil =>
      rw [hdn] at hq
      rw [up_nil hq]
      exact .inl ⟨rfl, fun v hv => (nomatch hv), _, rfl, stop⟩
    | cons x r =>
      rw [hdn] at hq
      obtain ⟨a0, as, ha, hM, hq2⟩ := up_list hq
      rw [ha]
      refine .inr ⟨by simp, _, rfl, ?_⟩
      have hcur := U1.atDnq hp
      rw [ha] at hcur
      refine ⟨_, rfl, F.wd, _, rfl, dg U1.atWd "down" wDn, _, rfl, F.dn, _, _, _, rfl, rfl, SqL.of U1.atDn, rng_at hp, .inl ⟨rfl, _, SqL.of hcur⟩, _, _, 0, 0, .ref a0, rfl, rfl, hcur, by decide, by decide, (ixN_seq (ixN_at (j := 0) (by simp))).1, rfl, ?_⟩
      have U2 := U1.setDn hp (as := as) (xs := r) hq2
      have W2 : Wd K F B (m.set p { m.pd p with dn := r }) _ := ⟨_, U2⟩
      have hx2 := U2.same _ _ hM.at_
      have Gd : Mth.Good F.n (m.set p (m.pd p).down) := G0.loc (Loc.down _)
      have hlen : r.length + 1 ≤ N := by
        have := hL.dn p hp
        rw [hdn] at this
        exact this
      refine ⟨_, rfl, a0, _, _, _, rfl, rfl, SqT.of hx2, atI_nat (j := 0) rfl, rfl, _, rfl, ?_⟩
      by_cases z1 : x = .rel
      · subst z1
        refine tT rfl ?_
        refine ⟨_, rfl, _, rfl, B, _, p, .non, rfl, W2, hp, fun H3 W3 => ?_⟩
        rw [set_set, set_same] at W3
        rw [down_rel hdn] at Gd
        refine k B H3 _ (Same.refl _) Gd ((hL.mono (Nat.le_add_right N 64)).set p (Nat.zero_le _) (Nat.zero_le _) ?_ ?_) W3
        · exact Nat.le_trans (hL.said p hp) (Nat.le_add_right _ _)
        · exact Nat.le_trans (hL.heard p hp) (Nat.le_add_right _ _)
      · refine tF (fun z => z1 ?_) ?_
        · have q := kind_of (x := x) (y := .rel) (str_inj z)
          cases x <;> first | rfl | (simp [kI] at q; done)
        refine ⟨_, rfl, F.wd, _, rfl, dg U2.atWd "calls" wCalls, _, rfl, F.calls, _, _, _, rfl, rfl, SqL.of U2.atCalls, rng_at hp, F.ph p, _, _, rfl, U2.atPh hp, mPhoneCall_take, _, rfl, ?_⟩
        have e2 : (m.set p { m.pd p with dn := r }).pd p = { m.pd p with dn := r } := set_same _ _ _
        refine ⟨B, _, p, a0, x, rfl, hM, z1, W2, hp, ?_, fun B3 H3 l s3 W3 hA => ?_⟩
        · rw [e2]
          have := hL.heard p hp
          show (m.pd p).heard.length ≤ 1000000
          omega
        rw [e2] at W3 hA
        rw [set_set] at W3
        obtain ⟨ku, kd, ks, kh, kl⟩ := take_keep { m.pd p with dn := r } x
        rw [down_cons hdn z1] at Gd
        generalize hT : ({ m.pd p with dn := r } : Pd).take x = tk at W3 hA ku kd ks kh kl Gd
        obtain ⟨d2, ys⟩ := tk
        dsimp only at W3 hA ku kd ks kh kl Gd
        obtain ⟨bs, hl, hB⟩ := hA
        have hlH := Exists.elim W3 fun _ u => u.same _ _ hl
        have yl := all2_len hB
        have Lf : Lim F.n (N + 64) (m.set p { d2 with up := (m.pd p).up ++ ys }) := by
          refine (hL.mono (Nat.le_add_right N 64)).set p ?_ ?_ ?_ ?_
          · show ((m.pd p).up ++ ys).length ≤ _
            rw [List.length_append]
            have := hL.up p hp
            omega
          · show d2.dn.length ≤ _
            rw [kd]
            show r.length ≤ _
            omega
          · have := hL.said p hp
            exact Nat.le_trans ks (Nat.le_trans this (Nat.le_add_right _ _))
          · have := hL.heard p hp
            exact Nat.le_trans kh (by show (m.pd p).heard.length + 1 ≤ _; omega)
        refine ⟨l, rfl, ⟨_, SqL.of hlH⟩, ?_⟩
        refine for_list (K := K) (a := l) (xs := bs.map V.ref) (fun i σ H' => ∃ a : Option V, σ = [some (.ref F.wd), some (natV p), some (.ref a0), a] ∧ Wd K F B3 (m.set p { d2 with up := (m.pd p).up ++ ys.take i }) H') ⟨none, rfl, ?_⟩ (fun i σ H' _ ⟨_, _, W4⟩ => Exists.elim W4 fun _ u => SqL.of (u.same _ _ hl)) ?_ ?_
        · rw [List.take_zero, List.append_nil, show ({ d2 with up := (m.pd p).up } : Pd) = d2 by cases d2; subst ku; rfl]
          exact W3
        · rintro i y σ H4 hi ⟨a1, rfl, W4⟩
          obtain ⟨b, hb, rfl⟩ := map_at hi
          obtain ⟨z, hz, hMz⟩ := pair_at hB hb
          obtain ⟨L4, U4⟩ := W4
          have il : i < ys.length := (List.getElem?_eq_some_iff.mp hz).1
          have hq4 := (U4.fine p hp).up
          have len4 := all2_len hq4
          rw [set_same] at hq4 len4
          refine ⟨_, rfl, F.wd, _, rfl, dg U4.atWd "up" wUp, _, rfl, F.up, _, _, _, rfl, rfl, SqL.of U4.atUp, rng_at hp, .inl ⟨rfl, _, SqL.of (U4.atUpq hp)⟩, _, rfl, _, _, _, rfl, rfl, U4.atUpq hp, ?_, ?_⟩
          · rw [List.length_map, len4]
            refine small1 (N := 1000000) ?_ Wk.bl
            show ((m.pd p).up ++ ys.take i).length ≤ _
            rw [List.length_append, List.length_take]
            have := hL.up p hp
            omega
          · have U5 := U4.setUp hp (as := L4.upA p ++ [b]) (xs := (m.pd p).up ++ ys.take i ++ [z]) (all2_app hq4 (.cons hMz .nil))
            rw [set_set, set_same, List.map_append] at U5
            refine ⟨_, rfl, ?_⟩
            rw [take_at hz, ← List.append_assoc]
            exact ⟨_, U5⟩
        · rintro σ H4 ⟨a1, rfl, W4⟩
          rw [show bs.map V.ref = bs.map V.ref from rfl] at W4
          have : (bs.map V.ref).length = ys.length := by rw [List.length_map, yl]
          rw [this, List.take_length] at W4
          exact k B3 H4 _ s3 Gd Lf W4
end
end Wk
end
section
set_option Elab.async false
set_option linter.all false
set_option maxRecDepth 100000
/-! The walk: the phone answers (or raises); the user's move. -/
namespace Wk
open PySem L2 He Mth Fl Wl Tx PyProof.Rows
/-- o.m() within a try: what it raises is wished for at the slots as they stand -/
def tAns (C : Addr) (m : Str) (sp : Sp) (E : L2.St → XK) (ta : TE) : TE := fun σ H Q => ta σ H fun x H1 => ∃ a dx fs, x = .ref a ∧ H1 a = some (.ins C dx fs) ∧ fs.lookup m = none ∧ sp [x] H1 Q (E σ)
theorem pe_ansS {X : Cx} {CX : CXT} {k : Nat} {f C : Addr} {fd : FuncData} {ps : List Str} {sp : Sp} {E : L2.St → XK} {m : Str} {pos apos : Pos} {o : Expr} {ta : TE} {pl : Sem Bool} (he : PE X o ta) (c : Cls X.K C) (hm : Meth X.K C m f)
    (F : FnOk X.prog X.w X.K X.mg X.base CX k f fd ps sp) (hr : Room k X.A) (hb : Binds X.K fd ps []) (hx : ∀ σ, PassesAt CX X σ (E σ))
    (ht : eval (.Call (.Attribute o m apos) [] [] pos) X.env = (do let it ← eval o X.env; standAt apos.atName; let (fn, self) ← holding [it] (getMethod it m pl); callWith pos fn self (backTo pos (starEach [] X.env)) (backToKw pos (keywordEach [] X.env))) := by rfl) :
    PE X (.Call (.Attribute o m apos) [] [] pos) (tAns C m sp E ta) := by
  refine ⟨fun pins s σ H Q I h => PySem.W.methodCall_KW (pl := pl) (thn (he.run pins s σ H _ I h) fun u s1 ⟨x, H1, I1, rx, a, dx, fs, ex, ea, l, q⟩ => ?_) ht⟩
  subst ex
  obtain rfl : u = Value.ref a := rx
  exact getmeth_ok I1 ea c hm l (PySem.W.callWith_K0 (first := [.ref a]) I1.kIn hm.kp (run_fnS (us := [.ref a]) (vs := [.ref a]) F hr hb (hx σ) I1 (.cons rfl .nil) q))
section
variable {P : Program} {w : World} {K : PySem.W.Frag} {mg : Str → Option Value} {base : Heap} {F : Fx}
def spNotNow (K : PySem.W.Frag) : Sp := fun vs H Q _ => ∃ (a : Addr) (v : V), vs = [.ref a, v] ∧ H a = some (exo a (ga K "NotNow") none) ∧ ∀ dx, H dx = none → dx ≠ a → Q .non (upd (upd H dx (exd dx [("what", v)])) a (exo a (ga K "NotNow") (some dx)))
theorem ok_NotNow_init (T : Txt K mg) : Has P w K mg base CX0 1 (ma K (ga K "NotNow") "__init__") ["self", "what"] (spNotNow K) := by
  obtain ⟨fd, Fn⟩ := T.fNot
  refine ⟨fd, Fn.ok sc_NotNow_init (fun vs H Q E h => ?_) (fun cdv A outer s H vs Q E hr h => ?_), bi_NotNow_init Fn, Fn.kp⟩
  · obtain ⟨a, v, rfl, _⟩ := h
    rfl
  · obtain ⟨a, v, rfl, ha, k⟩ := h
    refine ⟨_, PSs.nox (pss_one (ps_ost (pv 0) (pv 1) rfl)), ?_⟩
    exact ⟨_, rfl, _, rfl, a, _, rfl, T.xNot, T.wNot, .inl ⟨ha, fun dx n1 n2 => k dx n1 n2⟩⟩
def spAnswer (K : PySem.W.Frag) (F : Fx) : Sp := fun vs H Q E => ∃ (B : Hp) (L : Lay) (m : M) (i : Nat), vs = [.ref (F.ph i)] ∧ WL K F B L m H ∧ i < F.n ∧ (m.pd i).now = .ringing ∧
  (∀ B' H' t, Same B B' → WL K F B' L (m.set i { m.pd i with mkd := true }) H' → MsgAt B' t .connect → Q (.ref t) H') ∧ ∀ d H', Same H H' → E (.ref (ga K "NotNow")) d H'
theorem ok_PhoneCall_answer (T : Txt K mg) : Has P w K mg base (L2.CX P w) 3 (ma K (ga K "PhoneCall") "answer") ["self"] (spAnswer K F) := by
  obtain ⟨fd, Fn⟩ := fd_PhoneCall_answer T
  obtain ⟨_, G_NotNow_init, b_NotNow_init, k_NotNow_init⟩ := ok_NotNow_init (P := P) (w := w) (base := base) T
  refine ⟨fd, Fn.ok sc_PhoneCall_answer (fun vs H Q E h => ?_) (fun cdv A outer s H vs Q E hr h => ?_), bi_PhoneCall_answer Fn, Fn.kp⟩
  · obtain ⟨B, L, m, i, rfl, _⟩ := h
    rfl
  · obtain ⟨B, L, m, i, rfl, U, hi, hn, k, kE⟩ := h
    refine ⟨_, (pss_cons (ps_if (PW.pt (pw_or (pt_cmpR op_ne (pe_fld (pv 0) rfl) pe_str (nomark _)) (pw_or1 (pt_val (pe_fld (pv 0) rfl)))))
      (pss_one (ps_raise rfl (takes_of rfl rfl rfl rfl) (pmk_oex T.xNot T.iNot T.tNot G_NotNow_init (hr.mono (by decide)) b_NotNow_init .nil pass0 rfl (mg_NotNow T) (pa_cons pe_str pa_nil))))
      pss_nil)
    (pss_cons (ps_fld (pv 0) pe_bl rfl)
    (pss_one (ps_ret (pe_tup (pa_cons pe_str pa_nil)))))), ?_⟩
    replace U := selfW U i
    generalize m.pd i = d at U k hn
    have hv := numOf U hi
    refine ⟨_, rfl, F.ph i, _, _, _, _, rfl, atPh U hi, cl_PhoneCall T, na_PhoneCall_now T, gPhoneCall_now, rfl, _, rfl, nF (by rw [hn]; rfl) ?_⟩
    refine ⟨_, rfl, F.ph i, _, _, _, _, rfl, atPh U hi, cl_PhoneCall T, na_PhoneCall_marked T, gPhoneCall_marked, _, rfl, ?_⟩
    cases em : d.mkd with
    | true =>
      refine ⟨by decide, fun a na => ⟨a, _, rfl, upd_same, fun dx n1 n2 => ⟨rfl, dx, _, upd_same, (upd_ne n2).trans upd_same, ?_, ?_⟩⟩⟩
      · rw [upd_ne n2] at n1
        exact n1
      · refine kE _ _ fun b o e => ?_
        have h1 : b ≠ a := ne_of_none e na
        have h2 : b ≠ dx := ne_of_none e (by rw [upd_ne n2] at n1; exact n1)
        rw [upd_ne h2]
        show (if b = a then none else _) = _
        rw [if_neg h1, upd_ne h1, upd_ne h2, upd_ne h1]
        exact e
    | false =>
      refine ⟨_, rfl, F.ph i, _, _, _, rfl, atPh U hi, cl_PhoneCall T, na_PhoneCall_marked T, Wk.bl, ?_⟩
      have U1 := setPh U hi (a := d.now) (r := d.rs) (v := d.num) (b := true) hv
      rw [show putF "marked" (V.bl true) (phF d (L.ad (.sd i)) (L.ad (.hd i))) = phF { d with mkd := true } (L.ad (.sd i)) (L.ad (.hd i)) from pPhoneCall_marked]
      refine ⟨Wk.bl, fun t nt => ?_⟩
      obtain ⟨U2, s2⟩ := U1.imm nt (.tup [.str "connect"])
      exact k _ _ _ s2 U2 ⟨upd_same, trivial⟩
end
end Wk
end
section
set_option Elab.async false
set_option linter.all false
set_option maxRecDepth 100000
/-! The walk: the user's move. -/
namespace Wk
open PySem L2 He Mth Fl Wl Tx PyProof.Rows
theorem inV_nw (x : Nw) : ∀ ss : List Nw, inV (.str (nwS x)) (ss.map fun s => V.str (nwS s)) = decide (x ∈ ss)
  | [] => rfl
  | b :: bs => by
    show (eqV (.str (nwS b)) (.str (nwS x)) || inV (.str (nwS x)) (bs.map fun s => V.str (nwS s))) = _
    rw [inV_nw x bs]
    have e : eqV (.str (nwS b)) (.str (nwS x)) = decide (x = b) := by
      show (nwS b == nwS x) = _
      by_cases z : x = b
      · simp [z]
      · have : ¬ nwS b = nwS x := fun q => z (nw_inj q).symm
        simp [z, this]
    rw [e]
    by_cases z : x = b <;> simp [z]
section
variable {P : Program} {w : World} {K : PySem.W.Frag} {mg : Str → Option Value} {base : Heap} {F : Fx}
def spUser (K : PySem.W.Frag) (F : Fx) : Sp := fun vs H Q _ => ∃ (B : Hp) (m : M) (p : Nat) (v : Int) (N : Nat), vs = [.ref F.wd, natV p, .int v] ∧ Wd K F B m H ∧ Mth.Good F.n m ∧ p < F.n ∧ Lim F.n N m ∧ N ≤ 900000 ∧
  ∀ B' H' m', Same B B' → Mth.Good F.n m' → Lim F.n (N + 64) m' → Wd K F B' m' H' → Q .non H'
theorem ok_law_user (T : Txt K mg) : Has P w K mg base CX0 4 (ga K "_law_user") ["_law_world", "_law_person", "_law_value"] (spUser K F) := by
  obtain ⟨fd, Fn⟩ := fd_law_user T
  obtain ⟨_, G_PhoneCall_state, b_PhoneCall_state, k_PhoneCall_state⟩ := ok_PhoneCall_state (P := P) (w := w) (base := base) (F := F) T
  obtain ⟨_, G_PhoneCall_say, b_PhoneCall_say, k_PhoneCall_say⟩ := ok_PhoneCall_say (P := P) (w := w) (base := base) (F := F) T
  obtain ⟨_, G_PhoneCall_said, b_PhoneCall_said, k_PhoneCall_said⟩ := ok_PhoneCall_said (P := P) (w := w) (base := base) (F := F) T
  obtain ⟨_, G_PhoneCall_hang, b_PhoneCall_hang, k_PhoneCall_hang⟩ := ok_PhoneCall_hang (P := P) (w := w) (base := base) (F := F) T
  obtain ⟨_, G_PhoneCall_answer, b_PhoneCall_answer, k_PhoneCall_answer⟩ := ok_PhoneCall_answer (P := P) (w := w) (base := base) (F := F) T
  refine ⟨fd, Fn.ok sc_law_user (fun vs H Q E h => ?_) (fun cdv A outer s H vs Q E hr h => ?_), bi_law_user Fn, Fn.kp⟩
  · obtain ⟨B, m, p, v, N, rfl, _⟩ := h
    rfl
  · obtain ⟨B, m, p, v, N, rfl, W, G0, hp, hL, hN, k⟩ := h
    refine ⟨_, PSs.nox (pss_cons (ps_set (i := 3) sc_law_user.nd rfl (Or.inl rfl) (pe_ix ix_list (pe_dget (hu_of hr) (pv 0) pe_str (fun _ _ => rfl)) (pv 1) (fun _ _ => rfl)))
    (pss_one (ps_if (PW.pt (pw_and (pt_cmpR op_eq (pe_prop (pv 3) (cl_PhoneCall T) T.pState G_PhoneCall_state (hr.mono (by decide)) b_PhoneCall_state .nil pass0 rfl) pe_str (nomark _)) (pw_and1 (pt_cmpR op_gt (pe_op op_mod (pv 2) pe_int) pe_int (nomark _)))))
      (pss_one (ps_expr (pe_bm PySem.F.plainAttrs_list PySem.F.slot_list_append PySem.F.type_list_append mt_append (pe_ix ix_list (pe_dget (hu_of hr) (pv 0) pe_str (fun _ _ => rfl)) (pv 1) (fun _ _ => rfl)) (pa_cons (pe_meth (pv 3) (cl_PhoneCall T) (me_PhoneCall_say T) G_PhoneCall_say (hr.mono (by decide)) b_PhoneCall_say .nil pass0 (pa_cons (pe_tup (pa_cons (pe_op op_mod (pv 2) pe_int) (pa_cons (pe_op op_mod (pe_callB call_len_seq (by rfl) (fr_len T) PySem.boot_len (pa_cons (pe_prop (pv 3) (cl_PhoneCall T) T.pSaid G_PhoneCall_said (hr.mono (by decide)) b_PhoneCall_said .nil pass0 rfl) pa_nil)) pe_int) pa_nil))) pa_nil)) pa_nil))))
      (pss_one (ps_if (PW.pt (pw_and (pt_cmpR op_notIn_seq (pe_prop (pv 3) (cl_PhoneCall T) T.pState G_PhoneCall_state (hr.mono (by decide)) b_PhoneCall_state .nil pass0 rfl) (pe_tup (pa_cons pe_str (pa_cons pe_str pa_nil))) (by rfl)) (pw_and1 (pt_cmpR op_eq (pe_op op_mod (pv 2) pe_int) pe_int (nomark _)))))
        (pss_one (ps_expr (pe_bm PySem.F.plainAttrs_list PySem.F.slot_list_append PySem.F.type_list_append mt_append (pe_ix ix_list (pe_dget (hu_of hr) (pv 0) pe_str (fun _ _ => rfl)) (pv 1) (fun _ _ => rfl)) (pa_cons (pe_meth (pv 3) (cl_PhoneCall T) (me_PhoneCall_hang T) G_PhoneCall_hang (hr.mono (by decide)) b_PhoneCall_hang .nil pass0 (pa_cons pe_bl pa_nil)) pa_nil))))
        (pss_one (ps_if (pt_cmpR op_eq (pe_prop (pv 3) (cl_PhoneCall T) T.pState G_PhoneCall_state (hr.mono (by decide)) b_PhoneCall_state .nil pass0 rfl) pe_str (nomark _))
          (pss_one (ps_try_only (tb := fun W => tDrop (tBM K "list" rAppend (tOp (rIxL K) (tDGet (tVar 0) (L2.tC (.str "up"))) (tVar 1)) (tCons (tAns (ga K "PhoneCall") "answer" (spAnswer K F) (WE W) (tVar 3)) tNil))) (ts := fun _ _ _ => tRetN) (Wout := fun _ _ _ _ => False) rfl rfl ⟨rfl, by decide, .inl (mg_NotNow T)⟩ takes0 (fun W pn xe tk _ => pss_one (ps_expr (pe_bm PySem.F.plainAttrs_list PySem.F.slot_list_append PySem.F.type_list_append mt_append (pe_ix ix_list (pe_dget (hu_of hr) (pv 0) pe_str (fun _ _ => rfl)) (pv 1) (fun _ _ => rfl)) (pa_cons (pe_ansS (pv 3) (cl_PhoneCall T) (me_PhoneCall_answer T) G_PhoneCall_answer (hr.mono (by decide)) b_PhoneCall_answer (fun σ => passAt tk σ)) pa_nil)))) (fun _ _ _ _ _ _ _ => pss_one ps_retN)))
          pss_nil))))))), ?_⟩
    have stop : ∀ {B1 H1 : Hp}, Same B B1 → Wd K F B1 m H1 → Q .non H1 := fun s1 W1 => k _ _ m s1 G0 (hL.mono (by omega)) W1
    -- what is said goes up
    have app : ∀ {B1 H1 : Hp} {L : Lay} {d : Pd} {t : Addr} {x : Msg}, Same B B1 → WL K F B1 L (m.set p d) H1 → MsgAt B1 t x → d.up = (m.pd p).up → d.dn = (m.pd p).dn → d.said.length ≤ N + 64 → d.heard.length ≤ N + 64 → Loc (m.pd p) { d with up := (m.pd p).up ++ [x] } → rAppend (.ref (L.ad (.upq p))) [.ref t] H1 fun _ H2 => Q .non H2 :=
      fun {B1 H1 L d t x} s1 U1 hM e1 e2 l1 l2 lc => by
        have hq := (U1.fine p hp).up
        have len := all2_len hq
        rw [set_same] at hq len
        refine ⟨_, _, _, rfl, rfl, U1.atUpq hp, ?_, ?_⟩
        · rw [List.length_map, len, e1]
          exact small1 (N := 900000) (Nat.le_trans (hL.up p hp) hN) Wk.bl
        · have U2 := U1.setUp hp (as := L.upA p ++ [t]) (xs := (m.pd p).up ++ [x]) (by rw [← e1]; exact all2_app hq (.cons hM .nil))
          rw [set_set, set_same, List.map_append] at U2
          refine k _ _ _ s1 (G0.loc lc) ((hL.mono (Nat.le_add_right N 64)).set p ?_ ?_ l1 l2) ⟨_, U2⟩
          · show ((m.pd p).up ++ [x]).length ≤ _
            rw [List.length_append]
            have := hL.up p hp
            show _ + 1 ≤ _
            omega
          · show d.dn.length ≤ _
            rw [e2]
            exact Nat.le_trans (hL.dn p hp) (Nat.le_add_right _ _)
    have ls := hL.said p hp
    have lh := hL.heard p hp
    obtain ⟨L, U⟩ := W
    have W : Wd K F B m H := ⟨_, U⟩
    refine ⟨_, rfl, F.wd, _, rfl, dg U.atWd "calls" wCalls, _, rfl, F.calls, _, _, _, rfl, rfl, SqL.of U.atCalls, rng_at hp, ?_⟩
    refine ⟨_, rfl, F.ph p, _, _, rfl, U.atPh hp, B, m, p, rfl, W, hp, rfl, _, rfl, ?_⟩
    rw [show decide (V.str (nwS (m.pd p).now) = V.str "active") = decide ((m.pd p).now = .active) from nw_eq _ .active]
    refine tC (fun a1 => ⟨_, rfl, _, _, rfl, rfl, (by show (0 : Int) < 4; decide), _, _, rfl, rfl, _, rfl, tC (fun a2 => ?_) fun a2 => ?_⟩) fun a1 => ?_
    · -- says a word
      refine ⟨_, rfl, F.wd, _, rfl, dg U.atWd "up" wUp, _, rfl, F.up, _, _, _, rfl, rfl, SqL.of U.atUp, rng_at hp, .inl ⟨rfl, _, SqL.of (U.atUpq hp)⟩, ?_⟩
      refine ⟨_, rfl, F.ph p, _, _, rfl, U.atPh hp, mPhoneCall_say, ?_⟩
      refine ⟨_, rfl, _, _, rfl, rfl, (by show (0 : Int) < 256; decide), ?_⟩
      refine ⟨_, rfl, F.ph p, _, _, rfl, U.atPh hp, B, m, p, rfl, W, hp, fun H1 t1 s1 h1 => ?_⟩
      refine ⟨_, _, rfl, .inr (SqT.of h1), _, _, rfl, rfl, (by show (0 : Int) < 256; decide), ?_⟩
      have U1 := U.grow s1
      refine ⟨Wk.bl, fun t nt => ?_⟩
      obtain ⟨U2, s2⟩ := U1.imm nt (.tup [.int (v % 256), .int (((m.pd p).said.length : Int) % 256)])
      refine ⟨_, L, m, p, .ref t, rfl, ⟨t, _, _, rfl, upd_same⟩, U2, hp, a1, by omega, fun B3 H3 t3 s3 U3 hM => ?_⟩
      refine app (s2.trans s3) U3 hM rfl rfl ?_ (Nat.le_trans lh (Nat.le_add_right _ _)) (Loc.say _ a1)
      show ((m.pd p).said ++ [_]).length ≤ _
      rw [List.length_append]
      show _ + 1 ≤ _
      omega
    all_goals
      refine ⟨_, rfl, F.ph p, _, _, rfl, U.atPh hp, B, m, p, rfl, W, hp, Wk.bl, fun t nt => ?_⟩
      obtain ⟨U2, s2⟩ := U.imm nt (.tup [.str "idle", .str "clearing"])
      have W2 : Wd K F _ m _ := ⟨_, U2⟩
      refine ⟨_, _, rfl, .inr (SqT.of upd_same), rfl, rfl, _, rfl, ?_⟩
      rw [show inV (V.str (nwS (m.pd p).now)) [V.str "idle", V.str "clearing"] = decide ((m.pd p).now ∈ [Nw.idle, Nw.clearing]) from inV_nw _ [.idle, .clearing]]
      have tail : rAppend (.ref 0) [] H (fun _ _ => True) → True := fun _ => trivial
      refine nC (fun c1 => ⟨_, rfl, _, _, rfl, rfl, (by show (0 : Int) < 9; decide), rfl, _, rfl, tC (fun c2 => ?_) fun c2 => ?_⟩) fun c1 => ?_
      · refine ⟨_, rfl, F.wd, _, rfl, dg U2.atWd "up" wUp, _, rfl, F.up, _, _, _, rfl, rfl, SqL.of U2.atUp, rng_at hp, .inl ⟨rfl, _, SqL.of (U2.atUpq hp)⟩, ?_⟩
        refine ⟨_, rfl, F.ph p, _, _, rfl, U2.atPh hp, mPhoneCall_hang, ?_⟩
        have n1 : (m.pd p).now ≠ .idle := fun z => c1 (by rw [z]; exact List.mem_cons_self)
        have n2 : (m.pd p).now ≠ .clearing := fun z => c1 (by rw [z]; exact List.mem_cons_of_mem _ List.mem_cons_self)
        refine ⟨_, L, m, p, rfl, U2, hp, n1, n2, fun B3 H3 t3 s3 U3 hM => ?_⟩
        exact app (s2.trans s3) U3 hM rfl rfl (Nat.le_trans ls (Nat.le_add_right _ _)) (Nat.le_trans lh (Nat.le_add_right _ _)) (Loc.hang n1 n2)
      all_goals
        refine ⟨_, rfl, F.ph p, _, _, rfl, U2.atPh hp, _, m, p, rfl, W2, hp, rfl, _, rfl, ?_⟩
        rw [show decide (V.str (nwS (m.pd p).now) = V.str "ringing") = decide ((m.pd p).now = .ringing) from nw_eq _ .ringing]
        refine tC (fun d1 => ?_) fun d1 => stop s2 W2
        refine ⟨_, rfl, F.wd, _, rfl, dg U2.atWd "up" wUp, _, rfl, F.up, _, _, _, rfl, rfl, SqL.of U2.atUp, rng_at hp, .inl ⟨rfl, _, SqL.of (U2.atUpq hp)⟩, ?_⟩
        refine ⟨_, rfl, F.ph p, _, _, rfl, U2.atPh hp, mPhoneCall_answer, ?_⟩
        refine ⟨_, L, m, p, rfl, U2, hp, d1, fun B3 H3 t3 s3 U3 hM => ?_, fun d H3 s3 => ?_⟩
        · exact app (s2.trans s3) U3 hM rfl rfl (Nat.le_trans ls (Nat.le_add_right _ _)) (Nat.le_trans lh (Nat.le_add_right _ _)) (Loc.answer d1)
        · exact ⟨true, xm_NotNow T, fun _ a0 _ => stop s2 ⟨_, U2.grow s3⟩, fun z => nomatch z⟩
end
end Wk
end
section
set_option Elab.async false
set_option linter.all false
set_option maxRecDepth 100000
/-! The walk: the options of a move. -/
namespace Wk
open PySem L2 He Mth Fl Wl Tx PyProof.Rows
/-- a new list of pairs (kind, person) -/
structure OptL (n : Nat) (H H' : Hp) (l : Addr) (ts : List Addr) (c : Nat) : Prop where
  s : Same H H'
  nl : H l = none
  at_ : H' l = some (.lst (ts.map V.ref))
  len : ts.length ≤ c
  it : ∀ t ∈ ts, ∃ (k : Int) (p : Nat), p < n ∧ H' t = some (.tup [.int k, natV p])
theorem OptL.grow {n : Nat} {H H1 H2 : Hp} {l : Addr} {ts : List Addr} {c c' : Nat} (h : OptL n H H1 l ts c) (s : Same H1 H2) (hc : c ≤ c') : OptL n H H2 l ts c' :=
  ⟨h.s.trans s, h.nl, s _ _ h.at_, Nat.le_trans h.len hc, fun t ht => let ⟨k, p, hp, e⟩ := h.it t ht; ⟨k, p, hp, s _ _ e⟩⟩
theorem OptL.app {n : Nat} {H H1 : Hp} {l t : Addr} {ts : List Addr} {c : Nat} {k : Int} {p : Nat} (h : OptL n H H1 l ts c) (hp : p < n) (ht : H1 t = some (.tup [.int k, natV p])) : OptL n H (upd H1 l (.lst (ts.map V.ref ++ [.ref t]))) l (ts ++ [t]) (c + 1) := by
  have key : ∀ {b : Addr} {vs : List V}, H1 b = some (.tup vs) → upd H1 l (.lst (ts.map V.ref ++ [.ref t])) b = some (.tup vs) := fun {b vs} e => by
    have : b ≠ l := fun z => by
      rw [z, h.at_] at e
      cases e
    rw [upd_ne this]
    exact e
  refine ⟨fun b o e => ?_, h.nl, ?_, ?_, fun u hu => ?_⟩
  · rw [upd_ne (ne_of_none e h.nl)]
    exact h.s _ _ e
  · rw [upd_same, List.map_append]
    rfl
  · rw [List.length_append]
    exact Nat.succ_le_succ h.len
  · rcases List.mem_append.mp hu with q | q
    · obtain ⟨k', p', hp', e⟩ := h.it u q
      exact ⟨k', p', hp', key e⟩
    · rw [List.mem_singleton.mp q]
      exact ⟨k, p, hp, key ht⟩
theorem OptL.cat {n : Nat} {H H1 H2 : Hp} {l l2 t u : Addr} {ts : List Addr} {c : Nat} {k k' : Int} {p : Nat} (h : OptL n H H1 l ts c) (s : Same H1 H2) (hp : p < n) (ht : H2 t = some (.tup [.int k, natV p])) (hu : H2 u = some (.tup [.int k', natV p])) (nl : H2 l2 = none) :
    OptL n H (upd H2 l2 (.lst (ts.map V.ref ++ [.ref t, .ref u]))) l2 (ts ++ [t, u]) (c + 2) := by
  have s2 : Same H2 _ := same_upd (o := .lst (ts.map V.ref ++ [.ref t, .ref u])) nl
  refine ⟨(h.s.trans s).trans s2, ?_, ?_, ?_, fun b hb => ?_⟩
  · cases e : H l2 with
    | none => rfl
    | some o =>
      rw [(h.s.trans s) _ _ e] at nl
      cases nl
  · rw [upd_same, List.map_append]
    rfl
  · rw [List.length_append]
    have := h.len
    show _ + 2 ≤ _
    omega
  · rcases List.mem_append.mp hb with q | q
    · obtain ⟨k', p', hp', e⟩ := h.it b q
      exact ⟨k', p', hp', s2 _ _ (s _ _ e)⟩
    · rcases List.mem_cons.mp q with z | q
      · rw [z]
        exact ⟨k, p, hp, s2 _ _ ht⟩
      · rw [List.mem_singleton.mp q]
        exact ⟨k', p, hp, s2 _ _ hu⟩
theorem join {Pv N : L2.St → Hp → Prop} {G : Prop} (h : (∀ σ H, Pv σ H → N σ H) → G) (k : ∀ σ H, Pv σ H → N σ H) : G := h k
section
variable {P : Program} {w : World} {K : PySem.W.Frag} {mg : Str → Option Value} {base : Heap} {F : Fx}
/-- list != [] : a list of objects -/
theorem neE {H1 : Hp} {q e : Addr} {as : List Addr} {Q : VK} (hq : H1 q = some (.lst (as.map V.ref))) (he : H1 e = some (.lst [])) (k : ∀ b, Q (.bl b) H1) : rEqR K true (.ref q) (.ref e) H1 Q := by
  refine ⟨q, e, _, [], rfl, rfl, SqL.of hq, SqL.of he, ?_⟩
  cases as with
  | nil => exact .inl ⟨rfl, fun v hv => (nomatch hv), k _⟩
  | cons a as => exact .inr ⟨by simp, k _⟩
theorem iF {A B : Prop} (k : B) : if false = true then A else B := k
/-- a list, and two pairs behind it -/
theorem catE {n : Nat} {H H1 : Hp} {l t u q : Addr} {ts : List Addr} {c : Nat} {k : Int} {p : Nat} {Q : VK} (h : OptL n H H1 l ts c) (hp : p < n) (hc : c ≤ 900000) (nt : H1 t = none) (nu : upd H1 t (.tup [.int k, natV p]) u = none) (nq : upd (upd H1 t (.tup [.int k, natV p])) u (.tup [.int k, natV p]) q = none)
    (go : ∀ H2 l2 ts2, OptL n H H2 l2 ts2 (c + 2) → Same H1 H2 → Q (.ref l2) H2) : rCat (.ref l) (.ref q) (upd (upd (upd H1 t (.tup [.int k, natV p])) u (.tup [.int k, natV p])) q (.lst [.ref t, .ref u])) Q := by
  have s1 : Same H1 _ := same_upd (o := .tup [.int k, natV p]) nt
  have s2 : Same _ _ := same_upd (o := .tup [.int k, natV p]) nu
  have s3 : Same _ _ := same_upd (o := .lst [.ref t, .ref u]) nq
  refine ⟨l, q, _, _, rfl, rfl, ((s1.trans s2).trans s3) _ _ h.at_, upd_same, ?_, fun l2 nl2 => ?_⟩
  · rw [List.length_map]
    have := h.len
    refine small (N := 900002) ?_
    show _ + 2 ≤ _
    omega
  · exact go _ _ _ (h.cat ((s1.trans s2).trans s3) hp (s3 _ _ (s2 _ _ upd_same)) (s3 _ _ upd_same) nl2) (((s1.trans s2).trans s3).trans (same_upd nl2))
def spOpts (K : PySem.W.Frag) (F : Fx) : Sp := fun vs H Q _ => ∃ (B : Hp) (m : M), vs = [.ref F.wd] ∧ Wd K F B m H ∧ ∀ H' l ts, OptL F.n H H' l ts 100 → Q (.ref l) H'
theorem ok_law_options (T : Txt K mg) : Has P w K mg base CX0 3 (ga K "_law_options") ["_law_world"] (spOpts K F) := by
  obtain ⟨fd, Fn⟩ := fd_law_options T
  obtain ⟨_, G_PhoneCall_state, b_PhoneCall_state, k_PhoneCall_state⟩ := ok_PhoneCall_state (P := P) (w := w) (base := base) (F := F) T
  refine ⟨fd, Fn.ok sc_law_options (fun vs H Q E h => ?_) (fun cdv A outer s H vs Q E hr h => ?_), bi_law_options Fn, Fn.kp⟩
  · obtain ⟨B, m, rfl, _⟩ := h
    rfl
  · obtain ⟨B, m, rfl, W, k⟩ := h
    obtain ⟨L, U⟩ := W
    have n5 := U.base.five
    refine ⟨_, PSs.nox (pss_cons (ps_set (i := 1) sc_law_options.nd rfl (Or.inl rfl) (pe_lst pa_nil))
    (pss_cons (ps_for PassesOwn.never rfl (pi_range1 rfl (fr_range T) (pa_cons (pe_callB call_len_seq (by rfl) (fr_len T) PySem.boot_len (pa_cons (pe_dget (hu_of hr) (pv 0) pe_str (fun _ _ => rfl)) pa_nil)) pa_nil)) (pg_name (i := 2) sc_law_options.nd rfl (Or.inl rfl))
      (pss_cons (ps_set (i := 3) sc_law_options.nd rfl (Or.inl rfl) (pe_prop (pe_ix ix_list (pe_dget (hu_of hr) (pv 0) pe_str (fun _ _ => rfl)) (pv 2) (fun _ _ => rfl)) (cl_PhoneCall T) T.pState G_PhoneCall_state (hr.mono (by decide)) b_PhoneCall_state .nil pass0 rfl))
      (pss_cons (ps_if (pt_cmpR (op_neR (Nat.lt_of_succ_lt (hu_of hr))) (pe_ix ix_list (pe_dget (hu_of hr) (pv 0) pe_str (fun _ _ => rfl)) (pv 2) (fun _ _ => rfl)) (pe_lst pa_nil) (nomark _))
        (pss_one (ps_set (i := 1) sc_law_options.nd rfl (Or.inl rfl) (pe_op op_cat (pv 1) (pe_lst (pa_cons (pe_tup (pa_cons pe_int (pa_cons (pv 2) pa_nil))) (pa_cons (pe_tup (pa_cons pe_int (pa_cons (pv 2) pa_nil))) pa_nil))))))
        pss_nil)
      (pss_cons (ps_if (pt_cmpR (op_neR (Nat.lt_of_succ_lt (hu_of hr))) (pe_ix ix_list (pe_dget (hu_of hr) (pv 0) pe_str (fun _ _ => rfl)) (pv 2) (fun _ _ => rfl)) (pe_lst pa_nil) (nomark _))
        (pss_one (ps_set (i := 1) sc_law_options.nd rfl (Or.inl rfl) (pe_op op_cat (pv 1) (pe_lst (pa_cons (pe_tup (pa_cons pe_int (pa_cons (pv 2) pa_nil))) (pa_cons (pe_tup (pa_cons pe_int (pa_cons (pv 2) pa_nil))) pa_nil))))))
        pss_nil)
      (pss_cons (ps_if (PW.pt (pw_and (pt_val (pe_ix ix_list (pe_dget (hu_of hr) (pv 0) pe_str (fun _ _ => rfl)) (pv 2) (fun _ _ => rfl))) (pw_and (pt_cmpR op_eq (pv 3) pe_str (nomark _)) (pw_and1 (pt_not (pt_val (pe_ix ix_list (pe_dget (hu_of hr) (pv 0) pe_str (fun _ _ => rfl)) (pv 2) (fun _ _ => rfl))))))))
        (pss_one (ps_set (i := 1) sc_law_options.nd rfl (Or.inl rfl) (pe_op op_cat (pv 1) (pe_lst (pa_cons (pe_tup (pa_cons pe_int (pa_cons (pv 2) pa_nil))) (pa_cons (pe_tup (pa_cons pe_int (pa_cons (pv 2) pa_nil))) pa_nil))))))
        pss_nil)
      (pss_cons (ps_if (pt_cmpR op_in_seq (pv 3) (pe_tup (pa_cons pe_str (pa_cons pe_str pa_nil))) (by rfl))
        (pss_one (ps_expr (pe_bm PySem.F.plainAttrs_list PySem.F.slot_list_append PySem.F.type_list_append mt_append (pv 1) (pa_cons (pe_tup (pa_cons pe_int (pa_cons (pv 2) pa_nil))) pa_nil))))
        pss_nil)
      (pss_one (ps_if (PW.pt (pw_and (pt_cmpR op_eq (pv 3) pe_str (nomark _)) (pw_and1 (pt_not (pt_val (pe_ix ix_list (pe_dget (hu_of hr) (pv 0) pe_str (fun _ _ => rfl)) (pv 2) (fun _ _ => rfl)))))))
        (pss_one (ps_expr (pe_bm PySem.F.plainAttrs_list PySem.F.slot_list_append PySem.F.type_list_append mt_append (pv 1) (pa_cons (pe_tup (pa_cons pe_int (pa_cons (pv 2) pa_nil))) pa_nil))))
        pss_nil))))))))
    (pss_one (ps_ret (pv 1))))), ?_⟩
    refine ⟨Wk.bl, fun l0 nl0 => ?_⟩
    have s0 : Same H _ := same_upd (o := .lst []) nl0
    refine ⟨_, rfl, F.wd, _, rfl, dg (s0 _ _ U.atWd) "calls" wCalls, F.calls, _, rfl, .inl (SqL.of (s0 _ _ U.atCalls)), (F.n : Int), by rw [rng_len], by omega, by omega, ?_⟩
    refine for_range (lo := 0) (n := ((F.n : Int)).toNat) (fun i σ H' => ∃ (a b : Option V) (l : Addr) (ts : List Addr), σ = [some (.ref F.wd), some (.ref l), a, b] ∧ OptL F.n H H' l ts (8 * i)) ⟨none, none, l0, [], rfl, s0, nl0, upd_same, Nat.zero_le _, fun t h => nomatch h⟩ ?_ ?_
    · rintro i σ H1 hi ⟨a, b, l, ts, rfl, O⟩
      have hp : i < F.n := by omega
      have i5 : i < 5 := by omega
      have e0 : (V.int (0 + (i : Int))) = natV i := by
        show V.int _ = V.int _
        rw [Int.zero_add]
      rw [e0]
      have U1 := U.grow O.s
      refine ⟨_, rfl, F.wd, _, rfl, dg U1.atWd "calls" wCalls, _, rfl, F.calls, _, _, _, rfl, rfl, SqL.of U1.atCalls, rng_at hp, F.ph i, _, _, rfl, U1.atPh hp, B, m, i, rfl, ⟨_, U1⟩, hp, ?_⟩
      apply join (Pv := fun σ H' => ∃ (l : Addr) (ts : List Addr), σ = [some (.ref F.wd), some (.ref l), some (natV i), some (V.str (nwS (m.pd i).now))] ∧ OptL F.n H H' l ts (8 * i + 2))
      · intro nxt
        refine ⟨_, rfl, F.wd, _, rfl, dg U1.atWd "up" wUp, _, rfl, F.up, _, _, _, rfl, rfl, SqL.of U1.atUp, rng_at hp, Wk.bl, fun e ne => ?_⟩
        have sE : Same H1 _ := same_upd (o := .lst []) ne
        have U2 := U1.grow sE
        replace O := O.grow sE (Nat.le_refl _)
        refine neE (U2.atUpq hp) upd_same fun b1 => ?_
        refine ⟨_, rfl, ?_⟩
        cases b1 with
        | false => exact iF (nxt _ _ ⟨l, ts, rfl, O.grow (Same.refl _) (by omega)⟩)
        | true =>
          refine ⟨_, rfl, _, rfl, Wk.bl, fun t nt => ⟨_, rfl, Wk.bl, fun u nu => ⟨Wk.bl, fun q nq => ?_⟩⟩⟩
          refine catE O hp (by omega) nt nu nq fun H2 l2 ts2 O2 s2 => ?_
          exact nxt _ _ ⟨l2, ts2, rfl, O2⟩
      clear O U1 ts l a b
      rintro σ H1 ⟨l, ts, rfl, O⟩
      have U1 := U.grow O.s
      apply join (Pv := fun σ H' => ∃ (l : Addr) (ts : List Addr), σ = [some (.ref F.wd), some (.ref l), some (natV i), some (V.str (nwS (m.pd i).now))] ∧ OptL F.n H H' l ts (8 * i + 4))
      · intro nxt
        refine ⟨_, rfl, F.wd, _, rfl, dg U1.atWd "down" wDn, _, rfl, F.dn, _, _, _, rfl, rfl, SqL.of U1.atDn, rng_at hp, Wk.bl, fun e ne => ?_⟩
        have sE : Same H1 _ := same_upd (o := .lst []) ne
        have U2 := U1.grow sE
        replace O := O.grow sE (Nat.le_refl _)
        refine neE (U2.atDnq hp) upd_same fun b1 => ?_
        refine ⟨_, rfl, ?_⟩
        cases b1 with
        | false => exact iF (nxt _ _ ⟨l, ts, rfl, O.grow (Same.refl _) (by omega)⟩)
        | true =>
          refine ⟨_, rfl, _, rfl, Wk.bl, fun t nt => ⟨_, rfl, Wk.bl, fun u nu => ⟨Wk.bl, fun q nq => ?_⟩⟩⟩
          refine catE O hp (by omega) nt nu nq fun H2 l2 ts2 O2 s2 => ?_
          exact nxt _ _ ⟨l2, ts2, rfl, O2⟩
      clear O U1 ts l
      rintro σ H1 ⟨l, ts, rfl, O⟩
      have U1 := U.grow O.s
      apply join (Pv := fun σ H' => ∃ (l : Addr) (ts : List Addr), σ = [some (.ref F.wd), some (.ref l), some (natV i), some (V.str (nwS (m.pd i).now))] ∧ OptL F.n H H' l ts (8 * i + 6))
      · intro nxt
        have no := fun (_ : True) => nxt _ _ ⟨l, ts, rfl, O.grow (Same.refl _) (by omega)⟩
        refine ⟨_, rfl, F.wd, _, rfl, dg U1.atWd "paged" wPa, _, rfl, F.pa, _, _, _, rfl, rfl, SqL.of U1.atPa, rng_at hp, _, rfl, ?_⟩
        cases (m.pd i).pa with
        | false => exact iF (iF (no trivial))
        | true =>
          refine ⟨_, rfl, rfl, _, rfl, ?_⟩
          rw [show decide (V.str (nwS (m.pd i).now) = V.str "idle") = decide ((m.pd i).now = .idle) from nw_eq _ .idle]
          refine tC (fun _ => ?_) fun _ => iF (no trivial)
          refine ⟨_, rfl, F.wd, _, rfl, dg U1.atWd "linked" wLi, _, rfl, F.li, _, _, _, rfl, rfl, SqL.of U1.atLi, rng_at hp, _, rfl, ?_⟩
          cases (m.pd i).li with
          | true => exact iF (no trivial)
          | false =>
            refine ⟨_, rfl, _, rfl, Wk.bl, fun t nt => ⟨_, rfl, Wk.bl, fun u nu => ⟨Wk.bl, fun q nq => ?_⟩⟩⟩
            refine catE O hp (by omega) nt nu nq fun H2 l2 ts2 O2 s2 => ?_
            exact nxt _ _ ⟨l2, ts2, rfl, O2⟩
      clear O U1 ts l
      rintro σ H1 ⟨l, ts, rfl, O⟩
      have U1 := U.grow O.s
      apply join (Pv := fun σ H' => ∃ (l : Addr) (ts : List Addr), σ = [some (.ref F.wd), some (.ref l), some (natV i), some (V.str (nwS (m.pd i).now))] ∧ OptL F.n H H' l ts (8 * i + 7))
      · intro nxt
        refine ⟨_, rfl, Wk.bl, fun t0 nt0 => ?_⟩
        have s0' : Same H1 _ := same_upd (o := .tup [.str "ringing", .str "active"]) nt0
        replace O := O.grow s0' (Nat.le_refl _)
        have U1 := U.grow O.s
        refine ⟨_, _, rfl, .inr (SqT.of upd_same), rfl, rfl, _, rfl, ?_⟩
        rw [show inV (V.str (nwS (m.pd i).now)) [V.str "ringing", V.str "active"] = decide ((m.pd i).now ∈ [Nw.ringing, Nw.active]) from inV_nw _ [.ringing, .active]]
        refine tC (fun _ => ?_) fun _ => nxt _ _ ⟨l, ts, rfl, O.grow (Same.refl _) (by omega)⟩
        refine ⟨_, rfl, .inl ⟨rfl, _, SqL.of O.at_⟩, _, rfl, Wk.bl, fun t nt => ?_⟩
        have O2 := O.grow (same_upd (o := .tup [.int 7, natV i]) nt) (Nat.le_refl _)
        refine ⟨l, _, _, rfl, rfl, O2.at_, ?_, ?_⟩
        · rw [List.length_map]
          have := O.len
          exact small1 (N := 1000) (by omega) Wk.bl
        · exact nxt _ _ ⟨l, _, rfl, O2.app hp upd_same⟩
      clear O U1 ts l
      rintro σ H1 ⟨l, ts, rfl, O⟩
      have U1 := U.grow O.s
      refine ⟨_, rfl, rfl, _, rfl, ?_⟩
      rw [show decide (V.str (nwS (m.pd i).now) = V.str "idle") = decide ((m.pd i).now = .idle) from nw_eq _ .idle]
      refine tC (fun _ => ?_) fun _ => ⟨_, _, _, _, rfl, O.grow (Same.refl _) (by omega)⟩
      refine ⟨_, rfl, F.wd, _, rfl, dg U1.atWd "linked" wLi, _, rfl, F.li, _, _, _, rfl, rfl, SqL.of U1.atLi, rng_at hp, _, rfl, ?_⟩
      cases (m.pd i).li with
      | true => exact ⟨_, _, _, _, rfl, O.grow (Same.refl _) (by omega)⟩
      | false =>
        refine ⟨_, rfl, .inl ⟨rfl, _, SqL.of O.at_⟩, _, rfl, Wk.bl, fun t nt => ?_⟩
        have O2 := O.grow (same_upd (o := .tup [.int 0, natV i]) nt) (Nat.le_refl _)
        refine ⟨l, _, _, rfl, rfl, O2.at_, ?_, ?_⟩
        · rw [List.length_map]
          have := O.len
          exact small1 (N := 1000) (by omega) Wk.bl
        · exact ⟨_, _, _, _, rfl, (O2.app hp upd_same).grow (Same.refl _) (by omega)⟩
    · rintro σ H1 ⟨a, b, l, ts, rfl, O⟩
      exact ⟨_, rfl, k _ _ _ (O.grow (Same.refl _) (by omega))⟩
end
end Wk
end
section
set_option Elab.async false
set_option linter.all false
set_option maxRecDepth 100000
/-! The walk: one move; what it asks of the plain law. -/
namespace Wk
open PySem L2 He Mth Fl Wl Tx PyProof.Rows
theorem answ_good {n : Nat} {m : M} {p : Nat} {t : Int} {z : Str} (G : Mth.Good n m) (hA : Ads m.cs) (hp : p < n) (h1 : (m.pd p).now = .idle) (h2 : (m.pd p).li = false) :
    Mth.Good n (perf (answR (m.set p ({ m.pd p with pa := false }.link [])) p t z).1 (answR (m.set p ({ m.pd p with pa := false }.link [])) p t z).2) ∧ Sw n (m.set p ({ m.pd p with pa := false }.link [])) (answR (m.set p ({ m.pd p with pa := false }.link [])) p t z).1 (answR (m.set p ({ m.pd p with pa := false }.link [])) p t z).2 := by
  have G3 : Mth.Good n (m.set p ({ m.pd p with pa := false }.link [])) := G.loc ((Loc.page (m.pd p) false).trans (Loc.link h1 h2))
  have f : ((m.set p ({ m.pd p with pa := false }.link [])).pd p) = { m.pd p with pa := false }.link [] := set_same _ _ _
  have f1 : ((m.set p ({ m.pd p with pa := false }.link [])).pd p).now = .idle := by rw [f]; exact h1
  have f2 : ((m.set p ({ m.pd p with pa := false }.link [])).pd p).li = true := by rw [f]; rfl
  have f3 : ((m.set p ({ m.pd p with pa := false }.link [])).pd p).re = false := by rw [f]; rfl
  have f4 : ((m.set p ({ m.pd p with pa := false }.link [])).pd p).up = [] := by rw [f]; rfl
  have f5 : ((m.set p ({ m.pd p with pa := false }.link [])).pd p).dn = [] := by rw [f]; rfl
  replace hA : Ads (m.set p ({ m.pd p with pa := false }.link [])).cs := hA
  generalize m.set p ({ m.pd p with pa := false }.link []) = m3 at G3 hA f1 f2 f3 f4 f5 ⊢
  unfold answR
  cases ec : cin m3.cs p [.looking] with
  | none => exact ⟨G3, nil_sw⟩
  | some c =>
    obtain ⟨hc, hcd, hs⟩ := cin_some ec
    have hs : c.st = .looking := List.mem_singleton.mp hs
    refine ⟨good_answered G3 hA hc hcd hs f1 f2 f3 f4 f5 t (.str z), rfl, Nat.le_succ _, fun a ha => ?_, Wk.bl⟩
    · rw [List.mem_singleton.mp ha]
      exact hp
theorem fail_good {n : Nat} {m m' : M} {p : Nat} {acts : List Mth.Act} (G : Mth.Good n m) (hA : Ads m.cs) (h : (cin m.cs p [.looking] = none ∧ m' = m ∧ acts = []) ∨ ∃ c, cin m.cs p [.looking] = some c ∧ NrR n m c m' acts) : Mth.Good n (perf m' acts) ∧ Sw n m m' acts := by
  rcases h with ⟨_, rfl, rfl⟩ | ⟨c, ec, hN⟩
  · exact ⟨G, nil_sw⟩
  obtain ⟨hc, hcd, hs⟩ := cin_some ec
  have hs : c.st = .looking := List.mem_singleton.mp hs
  have fr := (G.call c hc p hcd).lk hs
  have hf : ∀ b, Free (actsP p { m.pd p with pa := b } []) := fun b => (Loc.page _ b).free fr
  have nt : c.st.talk = false := by rw [hs]; rfl
  have hw : ∀ a ∈ ([] : List Mth.Act), a.who = p := fun a ha => nomatch ha
  rcases hN with ⟨cause, rfl, rfl⟩ | ⟨u, hh, u1, u2, u3, rfl, rfl⟩
  · refine ⟨by have := good_end G hA hc hcd hw hf cause; rw [List.append_nil] at this; exact this, rfl, ?_, who_ref (G.lt _ (sides_cr hc)), Wk.bl⟩
    rw [drop_len]
    exact Nat.le_succ _
  · refine ⟨good_divert G hA hc hcd nt hw hf u1 u2 u3 hh, rfl, Nat.le_succ _, fun a ha => ?_, Wk.bl⟩
    rw [List.mem_singleton.mp ha]
    exact u1
section
variable {P : Program} {w : World} {K : PySem.W.Frag} {mg : Str → Option Value} {base : Heap}
def spPick (K : PySem.W.Frag) : Sp := fun vs H Q _ => ∃ (l : Addr) (zs : List Str) (d : Int), vs = [.ref l, .int d] ∧ H l = some (.lst (zs.map V.str)) ∧ 0 ≤ d ∧ ∀ v, NumV v → Q v H
theorem ok_law_pick (T : Txt K mg) : Has P w K mg base CX0 1 (ga K "_law_pick") ["_law_numbers", "_law_digit"] (spPick K) := by
  obtain ⟨fd, Fn⟩ := fd_law_pick T
  refine ⟨fd, Fn.ok sc_law_pick (fun vs H Q E h => ?_) (fun cdv A outer s H vs Q E hr h => ?_), bi_law_pick Fn, Fn.kp⟩
  · obtain ⟨l, zs, d, rfl, _⟩ := h
    rfl
  · obtain ⟨l, zs, d, rfl, hl, hd, k⟩ := h
    refine ⟨_, PSs.nox (pss_cons (ps_if (pt_cmpR op_lt (pv 1) (pe_callB call_len_seq (by rfl) (fr_len T) PySem.boot_len (pa_cons (pv 0) pa_nil)) (nomark _))
      (pss_one (ps_ret (pe_ix ix_list (pv 0) (pv 1) (fun _ _ => rfl))))
      pss_nil)
    (pss_cons (ps_if (pt_cmpR op_eq (pv 1) (pe_callB call_len_seq (by rfl) (fr_len T) PySem.boot_len (pa_cons (pv 0) pa_nil)) (nomark _))
      (pss_one (ps_ret pe_str))
      pss_nil)
    (pss_one (ps_ret pe_non)))), ?_⟩
    refine ⟨_, rfl, _, rfl, ⟨_, _, rfl, .inl (SqL.of hl), _, _, rfl, rfl, _, rfl, ?_⟩⟩
    refine tC (fun h1 => ?_) fun h1 => ?_
    · rw [List.length_map] at h1
      obtain ⟨j, rfl⟩ := Int.eq_ofNat_of_zero_le hd
      have hj : j < zs.length := by omega
      have e : (zs.map V.str)[j]? = some (.str zs[j]) := by rw [List.getElem?_map, List.getElem?_eq_getElem hj]; rfl
      exact ⟨_, rfl, _, rfl, l, _, _, _, rfl, rfl, SqL.of hl, atI_nat e, k _ (.inr ⟨_, rfl⟩)⟩
    · refine ⟨_, rfl, _, rfl, ⟨_, _, rfl, .inl (SqL.of hl), rfl, _, rfl, ?_⟩⟩
      exact tC (fun _ => k _ (.inr ⟨_, rfl⟩)) fun _ => k _ (.inl rfl)
end
end Wk
end
section
set_option Elab.async false
set_option linter.all false
set_option maxRecDepth 100000
/-! The walk: one move. -/
namespace Wk
open PySem L2 He Mth Fl Wl Tx PyProof.Rows
theorem cdv {i j : Int} (h : (decide (0 < j) && decide (j < 1073741824)) = true := by decide) : CDiv i j := by
  rw [Bool.and_eq_true] at h
  exact ⟨of_decide_eq_true h.1, of_decide_eq_true h.2⟩
theorem cmd {j : Int} (h : decide (0 < j) = true := by decide) : 0 < j := of_decide_eq_true h
theorem pos_at {n : Nat} (h : 0 < n) (v : Int) : ∃ p, p < n ∧ v % (n : Int) = (p : Int) := by
  have h1 := Int.emod_nonneg v (show (n : Int) ≠ 0 by omega)
  have h2 := Int.emod_lt_of_pos v (show (0 : Int) < n by omega)
  obtain ⟨p, e⟩ := Int.eq_ofNat_of_zero_le h1
  exact ⟨p, by omega, e⟩
theorem atq {ts : List Addr} (h : ts ≠ []) (v : Int) : ∃ u ∈ ts, atI (ts.map V.ref) (v % ((ts.map V.ref).length : Int)) = some (.ref u) := by
  have l : 0 < ts.length := List.length_pos_iff.mpr h
  obtain ⟨q, hq, e⟩ := pos_at l v
  rw [List.length_map, e]
  exact ⟨ts[q], List.getElem_mem hq, atI_nat (by rw [List.getElem?_map, List.getElem?_eq_getElem hq]; rfl)⟩
theorem in2 (k a b : Int) : inV (.int k) [.int a, .int b] = decide (k = a ∨ k = b) := by
  show (decide (a = k) || (decide (b = k) || false)) = _
  rw [Bool.or_false, ← Bool.decide_or]
  exact decide_eq_decide.mpr ⟨fun h => h.imp Eq.symm Eq.symm, fun h => h.imp Eq.symm Eq.symm⟩
theorem leave_sw2 {n : Nat} {m : M} {p : Nat} {cause : V} (G : Mth.Good n m) (i : Nat) (d : Pd) : Sw n (m.set i d) (leaveR (m.set i d) p cause).1 (leaveR (m.set i d) p cause).2 := by
  unfold leaveR
  rw [show fnd (m.set i d).cs p = fnd m.cs p from rfl]
  cases ef : fnd m.cs p with
  | none => exact nil_sw
  | some c =>
    dsimp only
    split
    · refine ⟨rfl, ?_, fun a ha => ?_, Nat.le_trans (clr_len _ _ _) Wk.bl⟩
      · rw [drop_len]
        exact Nat.le_succ _
      · rw [clr_who a ha]
        exact other_lt G (fnd_some ef).1
    · exact nil_sw
section
variable {K : PySem.W.Frag} {F : Fx} {B B' H H' : Hp} {m m' : M}
theorem Wd.grow (h : Wd K F B m H) (s : Same H H') : Wd K F B m H' := let ⟨L, U⟩ := h; ⟨L, U.grow s⟩
theorem ini {P N : L2.St → Hp → Prop} {σ : L2.St} {H : Hp} (h : P σ H) (k : ∀ σ H, P σ H → N σ H) : N σ H := k σ H h
theorem notT {b : Bool} (h : (match b with | true => false | false => true) = true) : b = false := by
  cases b <;> first | rfl | cases h
theorem bC {b : Bool} {A B : Prop} (h : b = true → A) (k : b = false → B) : if b = true then A else B := by
  cases b with
  | true => exact h rfl
  | false => exact k rfl
/-- between the ways of a move: kinds up to c are done, or nothing has changed -/
def Stg (K : PySem.W.Frag) (F : Fx) (B : Hp) (m : M) (N : Nat) (v t kd : Int) (p : Nat) (l : Addr) (fr : Bool) (c : Int) (σ : L2.St) (H' : Hp) : Prop := ∃ (x : Option V) (B' : Hp) (m' : M), σ = [some (.ref F.wd), some (.int v), some (.int t), some (.int kd), some (natV p), some (.ref l), some (.bl fr), some (.ref F.sw), x] ∧ Same B B' ∧ Mth.Good F.n m' ∧ Lim F.n (N + 300) m' ∧ Wd K F B' m' H' ∧ (kd ≤ c ∨ m' = m)
theorem Stg.mk {N : Nat} {v t kd : Int} {p : Nat} {l : Addr} {fr : Bool} {c : Int} {x : Option V} (s : Same B B') (G : Mth.Good F.n m') (hL : Lim F.n (N + 300) m') (W : Wd K F B' m' H') (h : kd ≤ c ∨ m' = m) : Stg K F B m N v t kd p l fr c [some (.ref F.wd), some (.int v), some (.int t), some (.int kd), some (natV p), some (.ref l), some (.bl fr), some (.ref F.sw), x] H' := ⟨x, B', m', rfl, s, G, hL, W, h⟩
end
section
variable {P : Program} {w : World} {K : PySem.W.Frag} {mg : Str → Option Value} {base : Heap} {F : Fx}
/-- list != [] : a list of objects, the two ways apart -/
theorem neF {H1 : Hp} {q e : Addr} {as : List Addr} {Q : VK} (hq : H1 q = some (.lst (as.map V.ref))) (he : H1 e = some (.lst [])) (k : as = [] → Q (.bl false) H1) (k2 : as ≠ [] → Q (.bl true) H1) : rEqR K true (.ref q) (.ref e) H1 Q := by
  refine ⟨q, e, _, [], rfl, rfl, SqL.of hq, SqL.of he, ?_⟩
  cases as with
  | nil => exact .inl ⟨rfl, fun v hv => (nomatch hv), k rfl⟩
  | cons a as => exact .inr ⟨by simp, k2 (by simp)⟩
theorem gval {i : Nat} {x y : V} {σ : L2.St} {H : Hp} {k : L2.St → Hp → Prop} (e : x = y) (h : gName i y σ H k) : gName i x σ H k := e ▸ h
def spMv (K : PySem.W.Frag) : Sp := fun vs H Q _ => ∃ (F : Fx) (B : Hp) (m : M) (v t : Int) (N : Nat), vs = [.ref F.wd, .int v, .int t] ∧ Wd K F B m H ∧ Mth.Good F.n m ∧ Lim F.n N m ∧ N ≤ 800000 ∧
  ∀ B' H' m', Same B B' → Mth.Good F.n m' → Lim F.n (N + 600) m' → Wd K F B' m' H' → Q .non H'
theorem ok_law_move (N0 : NextIn P w K (ga K "NEXT")) (T : Txt K mg) : Has P w K mg base CX0 7 (ga K "_law_move") ["_law_world", "_law_value", "_law_tick"] (spMv K) := by
  obtain ⟨fd, Fn⟩ := fd_law_move T
  refine ⟨fd, Fn.ok sc_law_move (fun vs H Q E h => ?_) (fun cdv' A outer s H vs Q E hr h => ?_), bi_law_move Fn, Fn.kp⟩
  · obtain ⟨F, B, m, v, t, N, rfl, _⟩ := h
    rfl
  · obtain ⟨F, B, m, v, t, N, rfl, W, G0, hL, hN, k⟩ := h
    obtain ⟨_, G_law_options, b_law_options, k_law_options⟩ := ok_law_options (P := P) (w := w) (base := base) (F := F) T
    obtain ⟨_, G_PhoneCall_state, b_PhoneCall_state, k_PhoneCall_state⟩ := ok_PhoneCall_state (P := P) (w := w) (base := base) (F := F) T
    obtain ⟨_, G_PhoneCall_dial, b_PhoneCall_dial, k_PhoneCall_dial⟩ := ok_PhoneCall_dial (P := P) (w := w) (base := base) (F := F) T
    obtain ⟨_, G_law_pick, b_law_pick, k_law_pick⟩ := ok_law_pick (P := P) (w := w) (base := base) T
    obtain ⟨_, G_law_link, b_law_link, k_law_link⟩ := ok_law_link (P := P) (w := w) (base := base) (F := F) T
    obtain ⟨_, G_law_up, b_law_up, k_law_up⟩ := ok_law_up (P := P) (w := w) (base := base) T
    obtain ⟨_, G_law_down, b_law_down, k_law_down⟩ := ok_law_down (base := base) N0 T
    obtain ⟨_, G_law_perform, b_law_perform, k_law_perform⟩ := ok_law_perform (P := P) (w := w) (base := base) (F := F) T
    obtain ⟨_, G_Switch_answered, b_Switch_answered, k_Switch_answered⟩ := ok_Switch_answered (P := P) (w := w) (base := base) (F := F) T
    obtain ⟨_, G_Switch_failed, b_Switch_failed, k_Switch_failed⟩ := ok_Switch_failed (P := P) (w := w) (base := base) (F := F) T
    obtain ⟨_, G_law_linked, b_law_linked, k_law_linked⟩ := ok_law_linked (P := P) (w := w) (base := base) (F := F) T
    obtain ⟨_, G_law_user, b_law_user, k_law_user⟩ := ok_law_user (P := P) (w := w) (base := base) (F := F) T
    obtain ⟨_, G_law_unlink, b_law_unlink, k_law_unlink⟩ := ok_law_unlink (P := P) (w := w) (base := base) (F := F) T
    obtain ⟨_, G_Switch_lost, b_Switch_lost, k_Switch_lost⟩ := ok_Switch_lost (P := P) (w := w) (base := base) (F := F) T
    obtain ⟨_, G_Switch_step, b_Switch_step, k_Switch_step⟩ := ok_Switch_step (P := P) (w := w) (base := base) (F := F) T
    refine ⟨_, PSs.nox (pss_cons (ps_set (i := 3) sc_law_move.nd rfl (Or.inl rfl) (pe_op op_mod (pe_op op_fdiv (pv 1) pe_int) pe_int))
    (pss_cons (ps_set (i := 4) sc_law_move.nd rfl (Or.inl rfl) (pe_op op_mod (pe_op op_fdiv (pv 1) pe_int) (pe_callB call_len_seq (by rfl) (fr_len T) PySem.boot_len (pa_cons (pe_dget (hu_of hr) (pv 0) pe_str (fun _ _ => rfl)) pa_nil))))
    (pss_cons (ps_set (i := 5) sc_law_move.nd rfl (Or.inl rfl) (pe_call G_law_options (hr.mono (by decide)) rfl (mg_law_options T) k_law_options b_law_options .nil pass0 (pa_cons (pv 0) pa_nil)))
    (pss_cons (ps_if (PW.pt (pw_and (pt_cmpR op_gt (pe_op op_mod (pv 1) pe_int) pe_int (nomark _)) (pw_and1 (pt_cmpR (op_neR (Nat.lt_of_succ_lt (hu_of hr))) (pv 5) (pe_lst pa_nil) (nomark _)))))
      (pss_one (ps_asg (pe_ix ix_list (pv 5) (pe_op op_mod (pe_op op_fdiv (pv 1) pe_int) (pe_callB call_len_seq (by rfl) (fr_len T) PySem.boot_len (pa_cons (pv 5) pa_nil))) (fun _ _ => rfl)) (pg_tup (by rfl) (pgs_cons (pg_name (i := 3) sc_law_move.nd rfl (Or.inl rfl)) (pgs_cons (pg_name (i := 4) sc_law_move.nd rfl (Or.inl rfl)) pgs_nil)))))
      pss_nil)
    (pss_cons (ps_set (i := 1) sc_law_move.nd rfl (Or.inl rfl) (pe_op op_fdiv (pv 1) pe_int))
    (pss_cons (ps_set (i := 6) sc_law_move.nd rfl (Or.inl rfl) (pe_and (pe_cmpR op_eq (pe_prop (pe_ix ix_list (pe_dget (hu_of hr) (pv 0) pe_str (fun _ _ => rfl)) (pv 4) (fun _ _ => rfl)) (cl_PhoneCall T) T.pState G_PhoneCall_state (hr.mono (by decide)) b_PhoneCall_state .nil pass0 rfl) pe_str (nomark _)) (pe_one (pe_not (pe_ix ix_list (pe_dget (hu_of hr) (pv 0) pe_str (fun _ _ => rfl)) (pv 4) (fun _ _ => rfl))))))
    (pss_cons (ps_set (i := 7) sc_law_move.nd rfl (Or.inl rfl) (pe_dget (hu_of hr) (pv 0) pe_str (fun _ _ => rfl)))
    (pss_cons (ps_if (PW.pt (pw_and (pt_cmpR op_eq (pv 3) pe_int (nomark _)) (pw_and1 (pt_val (pv 6)))))
      (pss_cons (ps_expr (pe_meth (pe_ix ix_list (pe_dget (hu_of hr) (pv 0) pe_str (fun _ _ => rfl)) (pv 4) (fun _ _ => rfl)) (cl_PhoneCall T) (me_PhoneCall_dial T) G_PhoneCall_dial (hr.mono (by decide)) b_PhoneCall_dial .nil pass0 (pa_cons (pe_call G_law_pick (hr.mono (by decide)) rfl (mg_law_pick T) k_law_pick b_law_pick .nil pass0 (pa_cons (pe_dget (hu_of hr) (pv 0) pe_str (fun _ _ => rfl)) (pa_cons (pe_op op_mod (pv 1) (pe_op op_add (pe_callB call_len_seq (by rfl) (fr_len T) PySem.boot_len (pa_cons (pe_dget (hu_of hr) (pv 0) pe_str (fun _ _ => rfl)) pa_nil)) pe_int)) pa_nil))) pa_nil)))
      (pss_one (ps_expr (pe_call G_law_link (hr.mono (by decide)) rfl (mg_law_link T) k_law_link b_law_link .nil pass0 (pa_cons (pv 0) (pa_cons (pv 4) (pa_cons (pe_lst (pa_cons (pe_tup (pa_cons pe_str pa_nil)) pa_nil)) pa_nil)))))))
      pss_nil)
    (pss_cons (ps_if (pt_cmpR op_in_seq (pv 3) (pe_tup (pa_cons pe_int (pa_cons pe_int pa_nil))) (by rfl))
      (pss_one (ps_for PassesOwn.never rfl (pi_range1 rfl (fr_range T) (pa_cons (pe_op op_add pe_int (pe_op op_mod (pv 1) pe_int)) pa_nil)) (pg_name (i := 8) sc_law_move.nd rfl (Or.inl rfl))
        (pss_one (ps_expr (pe_call G_law_up (hr.mono (by decide)) rfl (mg_law_up T) k_law_up b_law_up .nil pass0 (pa_cons (pv 0) (pa_cons (pv 4) (pa_cons (pv 2) pa_nil))))))))
      pss_nil)
    (pss_cons (ps_if (pt_cmpR op_in_seq (pv 3) (pe_tup (pa_cons pe_int (pa_cons pe_int pa_nil))) (by rfl))
      (pss_one (ps_for PassesOwn.never rfl (pi_range1 rfl (fr_range T) (pa_cons (pe_op op_add pe_int (pe_op op_mod (pv 1) pe_int)) pa_nil)) (pg_name (i := 8) sc_law_move.nd rfl (Or.inl rfl))
        (pss_one (ps_expr (pe_call G_law_down (hr.mono (by decide)) rfl (mg_law_down T) k_law_down b_law_down .nil pass0 (pa_cons (pv 0) (pa_cons (pv 4) pa_nil)))))))
      pss_nil)
    (pss_cons (ps_if (PW.pt (pw_and (pt_cmpR op_eq (pv 3) pe_int (nomark _)) (pw_and (pt_val (pe_ix ix_list (pe_dget (hu_of hr) (pv 0) pe_str (fun _ _ => rfl)) (pv 4) (fun _ _ => rfl))) (pw_and1 (pt_val (pv 6))))))
      (pss_cons (ps_asg pe_bl (pg_sub (pe_dget (hu_of hr) (pv 0) pe_str (fun _ _ => rfl)) (pv 4) set_list))
      (pss_cons (ps_expr (pe_call G_law_link (hr.mono (by decide)) rfl (mg_law_link T) k_law_link b_law_link .nil pass0 (pa_cons (pv 0) (pa_cons (pv 4) (pa_cons (pe_lst pa_nil) pa_nil)))))
      (pss_one (ps_expr (pe_call G_law_perform (hr.mono (by decide)) rfl (mg_law_perform T) k_law_perform b_law_perform .nil pass0 (pa_cons (pv 0) (pa_cons (pe_meth (pv 7) (cl_Switch T) (me_Switch_answered T) G_Switch_answered (hr.mono (by decide)) b_Switch_answered .nil pass0 (pa_cons (pv 4) (pa_cons (pv 2) pa_nil))) pa_nil)))))))
      pss_nil)
    (pss_cons (ps_if (PW.pt (pw_and (pt_cmpR op_eq (pv 3) pe_int (nomark _)) (pw_and (pt_cmpR op_eq (pe_op op_mod (pv 1) pe_int) pe_int (nomark _)) (pw_and1 (pt_val (pe_ix ix_list (pe_dget (hu_of hr) (pv 0) pe_str (fun _ _ => rfl)) (pv 4) (fun _ _ => rfl)))))))
      (pss_cons (ps_asg pe_bl (pg_sub (pe_dget (hu_of hr) (pv 0) pe_str (fun _ _ => rfl)) (pv 4) set_list))
      (pss_one (ps_expr (pe_call G_law_perform (hr.mono (by decide)) rfl (mg_law_perform T) k_law_perform b_law_perform .nil pass0 (pa_cons (pv 0) (pa_cons (pe_meth (pv 7) (cl_Switch T) (me_Switch_failed T) G_Switch_failed (hr.mono (by decide)) b_Switch_failed .nil pass0 (pa_cons (pv 4) (pa_cons (pe_call G_law_linked (hr.mono (by decide)) rfl (mg_law_linked T) k_law_linked b_law_linked .nil pass0 (pa_cons (pv 0) pa_nil)) (pa_cons (pv 2) pa_nil)))) pa_nil))))))
      pss_nil)
    (pss_cons (ps_if (pt_cmpR op_in_seq (pv 3) (pe_tup (pa_cons pe_int (pa_cons pe_int pa_nil))) (by rfl))
      (pss_one (ps_expr (pe_call G_law_user (hr.mono (by decide)) rfl (mg_law_user T) k_law_user b_law_user .nil pass0 (pa_cons (pv 0) (pa_cons (pv 4) (pa_cons (pv 1) pa_nil))))))
      pss_nil)
    (pss_cons (ps_if (PW.pt (pw_and (pt_cmpR op_eq (pv 3) pe_int (nomark _)) (pw_and (pt_cmpR op_eq (pe_op op_mod (pv 1) pe_int) pe_int (nomark _)) (pw_and1 (pt_val (pe_ix ix_list (pe_dget (hu_of hr) (pv 0) pe_str (fun _ _ => rfl)) (pv 4) (fun _ _ => rfl)))))))
      (pss_cons (ps_expr (pe_call G_law_unlink (hr.mono (by decide)) rfl (mg_law_unlink T) k_law_unlink b_law_unlink .nil pass0 (pa_cons (pv 0) (pa_cons (pv 4) (pa_cons pe_int pa_nil)))))
      (pss_one (ps_expr (pe_call G_law_perform (hr.mono (by decide)) rfl (mg_law_perform T) k_law_perform b_law_perform .nil pass0 (pa_cons (pv 0) (pa_cons (pe_meth (pv 7) (cl_Switch T) (me_Switch_lost T) G_Switch_lost (hr.mono (by decide)) b_Switch_lost .nil pass0 (pa_cons (pv 4) (pa_cons (pv 2) pa_nil))) pa_nil))))))
      pss_nil)
    (pss_one (ps_if (PW.pt (pw_and (pt_cmpR op_eq (pv 3) pe_int (nomark _)) (pw_and1 (pt_cmpR op_eq (pe_op op_mod (pv 1) pe_int) pe_int (nomark _)))))
      (pss_one (ps_expr (pe_call G_law_perform (hr.mono (by decide)) rfl (mg_law_perform T) k_law_perform b_law_perform .nil pass0 (pa_cons (pv 0) (pa_cons (pe_meth (pv 7) (cl_Switch T) (me_Switch_step T) G_Switch_step (hr.mono (by decide)) b_Switch_step .nil pass0 (pa_cons (pe_call G_law_linked (hr.mono (by decide)) rfl (mg_law_linked T) k_law_linked b_law_linked .nil pass0 (pa_cons (pv 0) pa_nil)) (pa_cons (pv 2) pa_nil))) pa_nil)))))
      pss_nil)))))))))))))))), ?_⟩
    have W' := W
    obtain ⟨L, U⟩ := W'
    have n2 := U.base.two
    have n5 := U.base.five
    refine ⟨_, rfl, _, _, rfl, rfl, cdv, _, _, rfl, rfl, cmd, ?_⟩
    have hlen : ((rng F.n fun i => V.ref (F.ph i)).length : Int) = (F.n : Int) := by rw [rng_len]
    refine ⟨_, rfl, _, _, rfl, rfl, cdv, _, rfl, F.wd, _, rfl, dg U.atWd "calls" wCalls, F.calls, _, rfl, .inl (SqL.of U.atCalls), _, _, rfl, rfl, (by rw [hlen]; show (0 : Int) < _; omega), ?_⟩
    obtain ⟨p, hp, ep⟩ := pos_at (n := F.n) (by omega) (v / 40)
    rw [hlen]
    refine gval (y := natV p) (congrArg V.int ep) ?_
    refine ⟨_, rfl, B, m, rfl, W, fun H1 l ts O => ?_⟩
    have U1 := U.grow O.s
    -- who moves, and how
    apply join (Pv := fun σ H' => ∃ (kd : Int) (p : Nat), σ = [some (.ref F.wd), some (.int v), some (.int t), some (.int kd), some (natV p), some (.ref l), none, none, none] ∧ p < F.n ∧ Same H1 H')
    · intro nxt
      refine ⟨_, rfl, _, _, rfl, rfl, cmd, _, _, rfl, rfl, _, rfl, ?_⟩
      have no : ∀ {H2 : Hp}, Same H1 H2 → _ := fun {H2} s2 => nxt _ H2 ⟨v / 4 % 10, p, rfl, hp, s2⟩
      refine tC (fun _ => ?_) fun _ => ?_
      rotate_left
      · refine iF ?_
        exact no (Same.refl _)
      refine ⟨_, rfl, Wk.bl, fun e ne => ?_⟩
      have sE : Same H1 _ := same_upd (o := .lst []) ne
      refine neF (sE _ _ O.at_) upd_same (fun z => ?_) fun z => ?_
      · refine ⟨_, rfl, iF ?_⟩
        exact no sE
      obtain ⟨u, hu, eu⟩ := atq z (v / 4)
      obtain ⟨kd, p', hp', ht⟩ := O.it u hu
      refine ⟨_, rfl, ?_⟩
      refine ⟨_, rfl, _, rfl, _, _, rfl, rfl, cdv, _, rfl, l, _, rfl, .inl (SqL.of (sE _ _ O.at_)), _, _, rfl, rfl, (by rw [List.length_map]; have : 0 < ts.length := List.length_pos_iff.mpr z; omega), l, _, _, _, rfl, rfl, SqL.of (sE _ _ O.at_), eu, ?_⟩
      refine ⟨u, _, rfl, SqT.of (sE _ _ ht), rfl, _, _, rfl, _, _, rfl, rfl, ?_⟩
      exact nxt _ _ ⟨kd, p', rfl, hp', sE⟩
    clear O ep hp p
    rintro σ H2 ⟨kd, p, rfl, hp, s2⟩
    replace U1 := U1.grow s2
    clear s2
    refine ⟨_, rfl, _, _, rfl, rfl, cdv, ?_⟩
    -- is the phone free
    apply join (Pv := fun σ H' => ∃ fr : Bool, σ = [some (.ref F.wd), some (.int (v / 400)), some (.int t), some (.int kd), some (natV p), some (.ref l), some (.bl fr), none, none] ∧ H' = H2 ∧ (fr = true → (m.pd p).now = .idle ∧ (m.pd p).li = false))
    · intro nxt
      refine ⟨_, rfl, F.wd, _, rfl, dg U1.atWd "calls" wCalls, _, rfl, F.calls, _, _, _, rfl, rfl, SqL.of U1.atCalls, rng_at hp, F.ph p, _, _, rfl, U1.atPh hp, B, m, p, rfl, ⟨_, U1⟩, hp, ?_⟩
      refine ⟨rfl, _, rfl, ?_⟩
      rw [show decide (V.str (nwS (m.pd p).now) = V.str "idle") = decide ((m.pd p).now = .idle) from nw_eq _ .idle]
      refine tC (fun e1 => ?_) fun _ => ?_
      rotate_left
      · exact nxt _ _ ⟨false, rfl, rfl, fun z => nomatch z⟩
      refine ⟨_, rfl, F.wd, _, rfl, dg U1.atWd "linked" wLi, _, rfl, F.li, _, _, _, rfl, rfl, SqL.of U1.atLi, rng_at hp, _, rfl, ?_⟩
      refine nxt _ _ ⟨_, rfl, rfl, fun z => ⟨e1, ?_⟩⟩
      exact notT z
    rintro σ H3 ⟨fr, rfl, rfl, hfr⟩
    generalize v / 400 = v'
    apply join (Pv := Stg K F B m N v' t kd p l fr (-1))
    · intro nxt
      refine ⟨_, rfl, F.wd, _, rfl, dg U1.atWd "switch" wSw, ?_⟩
      exact nxt _ _ (Stg.mk (x := none) (Same.refl _) G0 (hL.mono (Nat.le_add_right N 300)) ⟨_, U1⟩ (.inr rfl))
    clear U1 U L W H3
    -- kind 0: dials
    rintro σ H3 ⟨x, B1, m1, rfl, s1, G1, L1, W1, h1⟩
    apply join (Pv := Stg K F B m N v' t kd p l fr 0)
    · intro nxt
      have skip := nxt _ _ (Stg.mk (x := x) s1 G1 L1 W1 (h1.imp (fun z => by omega) id))
      refine ⟨_, rfl, rfl, _, rfl, ?_⟩
      refine tC (fun e => ?_) fun _ => iF skip
      refine ⟨_, rfl, _, rfl, bC (fun efr => ?_) fun _ => skip⟩
      obtain ⟨f1, f2⟩ := hfr efr
      have em : m1 = m := h1.resolve_left (by have := int_inj e; omega)
      have W2 : Wd K F B1 m H3 := em ▸ W1
      have W2' := W2
      obtain ⟨L2, U2⟩ := W2'
      obtain ⟨zs, hzs, lzs⟩ := U2.base.nums
      have hzs := U2.same _ _ hzs
      have lz : (((zs.map V.str).length : Nat) : Int) = (F.n : Int) := by rw [List.length_map, lzs]
      refine ⟨_, rfl, F.wd, _, rfl, dg U2.atWd "calls" wCalls, _, rfl, F.calls, _, _, _, rfl, rfl, SqL.of U2.atCalls, rng_at hp, F.ph p, _, _, rfl, U2.atPh hp, mPhoneCall_dial, ?_⟩
      refine ⟨_, rfl, F.wd, _, rfl, dg U2.atWd "numbers" wNums, _, rfl, _, rfl, F.wd, _, rfl, dg U2.atWd "numbers" wNums, F.nums, _, rfl, .inl (SqL.of hzs), _, _, rfl, rfl, _, _, rfl, rfl, (by rw [lz]; show (0 : Int) < _ + 1; omega), ?_⟩
      refine ⟨F.nums, zs, _, rfl, hzs, (by exact Int.emod_nonneg _ (by rw [lz]; show (_ : Int) + 1 ≠ 0; omega)), fun nv hnv => ?_⟩
      refine ⟨B1, m, p, nv, rfl, W2, hp, f1, hnv, fun H4 W4 => ?_⟩
      obtain ⟨L4, U4⟩ := W4
      refine ⟨_, rfl, _, rfl, Wk.bl, fun a0 na => ?_⟩
      obtain ⟨U5, s5⟩ := U4.imm na (.tup [.str "service accept"])
      refine ⟨Wk.bl, fun q nq => ?_⟩
      refine ⟨_, L4, _, p, q, [a0], [.sacc], rfl, U5.grow (same_upd nq), hp, U5.fr nq, upd_same, .cons ⟨upd_same, trivial⟩ .nil, fun H6 W6 => ?_⟩
      rw [set_set, set_same] at W6
      refine nxt _ _ (Stg.mk (x := x) (s1.trans s5) (G0.loc (Loc.dial nv f1 f2)) ?_ W6 (.inl (by have := int_inj e; omega)))
      exact (hL.mono (Nat.le_add_right N 300)).set p (Nat.zero_le _) (by show 1 ≤ _; omega) (Nat.zero_le _) (Nat.zero_le _)
    clear h1 W1 L1 G1 s1 m1 B1 x H3
    -- kinds 1, 2: messages up
    rintro σ H3 ⟨x, B1, m1, rfl, s1, G1, L1, W1, h1⟩
    apply join (Pv := Stg K F B m N v' t kd p l fr 2)
    · intro nxt
      refine ⟨_, rfl, Wk.bl, fun t0 nt0 => ?_⟩
      have s0 : Same H3 _ := same_upd (o := .tup [.int 1, .int 2]) nt0
      have skip := nxt _ _ (Stg.mk (x := x) s1 G1 L1 (Wd.grow W1 s0) (h1.imp (fun z => by omega) id))
      refine ⟨_, _, rfl, .inr (SqT.of upd_same), rfl, rfl, _, rfl, ?_⟩
      rw [in2]
      refine tC (fun e => ?_) fun _ => skip
      have em : m1 = m := h1.resolve_left (by omega)
      have W2 : Wd K F B1 m _ := em ▸ Wd.grow W1 s0
      refine ⟨_, rfl, _, _, rfl, rfl, cmd, _, _, rfl, rfl, 1 + v' % 4, rfl, by omega, by omega, ?_⟩
      refine for_range (lo := 0) (n := (1 + v' % 4).toNat) (fun i σ H' => ∃ (x : Option V) (B' : Hp) (m' : M), σ = [some (.ref F.wd), some (.int v'), some (.int t), some (.int kd), some (natV p), some (.ref l), some (.bl fr), some (.ref F.sw), x] ∧ Same B B' ∧ Mth.Good F.n m' ∧ Lim F.n (N + 64 * i) m' ∧ Wd K F B' m' H') ⟨x, B1, m, rfl, s1, G0, hL, W2⟩ ?_ ?_
      · rintro i σ H4 hi ⟨y, B4, m4, rfl, s4, G4, L4, W4⟩
        refine ⟨_, rfl, _, rfl, _, rfl, F, B4, m4, p, t, N + 64 * i, rfl, W4, G4, hp, L4, by omega, fun B5 H5 m5 s5 G5 L5 W5 => ?_⟩
        exact ⟨_, B5, m5, rfl, s4.trans s5, G5, L5.mono (by omega), W5⟩
      · rintro σ H4 ⟨y, B4, m4, rfl, s4, G4, L4, W4⟩
        exact nxt _ _ (Stg.mk (x := y) s4 G4 (L4.mono (by omega)) W4 (.inl (by omega)))
    clear h1 W1 L1 G1 s1 m1 B1 x H3
    -- kinds 3, 4: messages down
    rintro σ H3 ⟨x, B1, m1, rfl, s1, G1, L1, W1, h1⟩
    apply join (Pv := Stg K F B m N v' t kd p l fr 4)
    · intro nxt
      refine ⟨_, rfl, Wk.bl, fun t0 nt0 => ?_⟩
      have s0 : Same H3 _ := same_upd (o := .tup [.int 3, .int 4]) nt0
      have skip := nxt _ _ (Stg.mk (x := x) s1 G1 L1 (Wd.grow W1 s0) (h1.imp (fun z => by omega) id))
      refine ⟨_, _, rfl, .inr (SqT.of upd_same), rfl, rfl, _, rfl, ?_⟩
      rw [in2]
      refine tC (fun e => ?_) fun _ => skip
      have em : m1 = m := h1.resolve_left (by omega)
      have W2 : Wd K F B1 m _ := em ▸ Wd.grow W1 s0
      refine ⟨_, rfl, _, _, rfl, rfl, cmd, _, _, rfl, rfl, 1 + v' % 4, rfl, by omega, by omega, ?_⟩
      refine for_range (lo := 0) (n := (1 + v' % 4).toNat) (fun i σ H' => ∃ (x : Option V) (B' : Hp) (m' : M), σ = [some (.ref F.wd), some (.int v'), some (.int t), some (.int kd), some (natV p), some (.ref l), some (.bl fr), some (.ref F.sw), x] ∧ Same B B' ∧ Mth.Good F.n m' ∧ Lim F.n (N + 64 * i) m' ∧ Wd K F B' m' H') ⟨x, B1, m, rfl, s1, G0, hL, W2⟩ ?_ ?_
      · rintro i σ H4 hi ⟨y, B4, m4, rfl, s4, G4, L4, W4⟩
        refine ⟨_, rfl, _, rfl, F, B4, m4, p, N + 64 * i, rfl, W4, G4, hp, L4, by omega, fun B5 H5 m5 s5 G5 L5 W5 => ?_⟩
        exact ⟨_, B5, m5, rfl, s4.trans s5, G5, L5.mono (by omega), W5⟩
      · rintro σ H4 ⟨y, B4, m4, rfl, s4, G4, L4, W4⟩
        exact nxt _ _ (Stg.mk (x := y) s4 G4 (L4.mono (by omega)) W4 (.inl (by omega)))
    clear h1 W1 L1 G1 s1 m1 B1 x H3
    -- kind 5: the page is answered
    rintro σ H3 ⟨x, B1, m1, rfl, s1, G1, L1, W1, h1⟩
    apply join (Pv := Stg K F B m N v' t kd p l fr 5)
    · intro nxt
      have skip := nxt _ _ (Stg.mk (x := x) s1 G1 L1 W1 (h1.imp (fun z => by omega) id))
      refine ⟨_, rfl, rfl, _, rfl, ?_⟩
      refine tC (fun e => ?_) fun _ => iF skip
      have em : m1 = m := h1.resolve_left (by have := int_inj e; omega)
      have W2 : Wd K F B1 m H3 := em ▸ W1
      obtain ⟨L2, U2⟩ := W2
      refine ⟨_, rfl, F.wd, _, rfl, dg U2.atWd "paged" wPa, _, rfl, F.pa, _, _, _, rfl, rfl, SqL.of U2.atPa, rng_at hp, _, rfl, ?_⟩
      refine bC (fun _ => ?_) fun _ => iF skip
      refine ⟨_, rfl, _, rfl, bC (fun efr => ?_) fun _ => skip⟩
      obtain ⟨f1, f2⟩ := hfr efr
      refine ⟨_, rfl, F.wd, _, rfl, dg U2.atWd "paged" wPa, _, rfl, F.pa, _, _, p, rfl, rfl, U2.atPa, rng_ix hp, ?_⟩
      have U3 := U2.setPa (i := p) false
      refine ⟨_, rfl, _, rfl, Wk.bl, fun q nq => ?_⟩
      refine ⟨B1, L2, _, p, q, [], [], rfl, U3.grow (same_upd nq), hp, U3.fr nq, upd_same, .nil, fun H4 W4 => ?_⟩
      rw [set_set, set_same] at W4
      have W4' := W4
      obtain ⟨L4, U4⟩ := W4'
      refine ⟨_, rfl, _, rfl, F.sw, _, _, rfl, U4.atSw, mSwitch_answered, _, rfl, _, rfl, ?_⟩
      refine ⟨B1, _, p, t, rfl, W4, fun c hc => G0.lt _ (sides_cr hc), fun B5 H5 l5 z s5 W5 hA => ?_⟩
      obtain ⟨G5, S5⟩ := answ_good (t := t) (z := z) G0 U2.ads hp f1 f2
      have L3 : Lim F.n N (m.set p ({ m.pd p with pa := false }.link [])) := hL.set p (Nat.zero_le _) (Nat.zero_le _) (hL.said p hp) (hL.heard p hp)
      have L5 := (L3.mono (Nat.le_succ N)).sw S5.pd (Nat.le_trans S5.bk (Nat.add_le_add_right hL.bk 1))
      have few := S5.few
      refine ⟨B5, _, l5, _, rfl, W5, hA, S5.who, fun j hj => ?_, fun B6 H6 s6 W6 => ?_⟩
      · have := L5.dn j hj
        omega
      · exact nxt _ _ (Stg.mk (x := x) ((s1.trans s5).trans s6) G5 ((L5.perf _).mono (by omega)) W6 (.inl (by have := int_inj e; omega)))
    clear h1 W1 L1 G1 s1 m1 B1 x H3
    -- kind 6: the page fails
    rintro σ H3 ⟨x, B1, m1, rfl, s1, G1, L1, W1, h1⟩
    apply join (Pv := Stg K F B m N v' t kd p l fr 6)
    · intro nxt
      have skip := nxt _ _ (Stg.mk (x := x) s1 G1 L1 W1 (h1.imp (fun z => by omega) id))
      refine ⟨_, rfl, rfl, _, rfl, ?_⟩
      refine tC (fun e => ?_) fun _ => iF skip
      refine ⟨_, rfl, _, _, rfl, rfl, cmd, rfl, _, rfl, ?_⟩
      refine tC (fun _ => ?_) fun _ => iF skip
      have em : m1 = m := h1.resolve_left (by have := int_inj e; omega)
      have W2 : Wd K F B1 m H3 := em ▸ W1
      obtain ⟨L2, U2⟩ := W2
      refine ⟨_, rfl, F.wd, _, rfl, dg U2.atWd "paged" wPa, _, rfl, F.pa, _, _, _, rfl, rfl, SqL.of U2.atPa, rng_at hp, _, rfl, ?_⟩
      refine bC (fun _ => ?_) fun _ => skip
      refine ⟨_, rfl, F.wd, _, rfl, dg U2.atWd "paged" wPa, _, rfl, F.pa, _, _, p, rfl, rfl, U2.atPa, rng_ix hp, ?_⟩
      have U3 := U2.setPa (i := p) false
      have W3 : Wd K F B1 _ _ := ⟨_, U3⟩
      have G3 : Mth.Good F.n (m.set p { m.pd p with pa := false }) := G0.loc (Loc.page _ _)
      refine ⟨_, rfl, _, rfl, F.sw, _, _, rfl, U3.atSw, mSwitch_failed, _, rfl, _, rfl, B1, _, rfl, W3, fun H4 l4 ls s4 nl4 h4 hls => ?_⟩
      obtain ⟨B4, sB4, W4, hl4⟩ : ∃ B4, Same B1 B4 ∧ Wd K F B4 (m.set p { m.pd p with pa := false }) H4 ∧ B4 l4 = some (.lst (ls.map natV)) := by
        have U4 := U3.grow s4
        obtain ⟨U5, s5⟩ := freeze U4 h4 (U3.fr nl4)
        exact ⟨_, s5, ⟨_, U5⟩, upd_same⟩
      refine ⟨_, rfl, B4, _, p, l4, ls, _, rfl, W4, good_cs G3 n5, hp, hl4, Nat.le_trans hls Wk.bl, fun B5 H5 l5 m5 acts s5 hF W5 hA => ?_⟩
      obtain ⟨G5, S5⟩ := fail_good G3 U2.ads hF
      have L3 : Lim F.n N (m.set p { m.pd p with pa := false }) := hL.set p (hL.up p hp) (hL.dn p hp) (hL.said p hp) (hL.heard p hp)
      have L5 := (L3.mono (Nat.le_succ N)).sw S5.pd (Nat.le_trans S5.bk (Nat.add_le_add_right hL.bk 1))
      have few := S5.few
      refine ⟨B5, _, l5, _, rfl, W5, hA, S5.who, fun j hj => ?_, fun B6 H6 s6 W6 => ?_⟩
      · have := L5.dn j hj
        omega
      · exact nxt _ _ (Stg.mk (x := x) (((s1.trans sB4).trans s5).trans s6) G5 ((L5.perf _).mono (by omega)) W6 (.inl (by have := int_inj e; omega)))
    clear h1 W1 L1 G1 s1 m1 B1 x H3
    -- kinds 7, 8: the user
    rintro σ H3 ⟨x, B1, m1, rfl, s1, G1, L1, W1, h1⟩
    apply join (Pv := Stg K F B m N v' t kd p l fr 8)
    · intro nxt
      refine ⟨_, rfl, Wk.bl, fun t0 nt0 => ?_⟩
      have s0 : Same H3 _ := same_upd (o := .tup [.int 7, .int 8]) nt0
      have skip := nxt _ _ (Stg.mk (x := x) s1 G1 L1 (Wd.grow W1 s0) (h1.imp (fun z => by omega) id))
      refine ⟨_, _, rfl, .inr (SqT.of upd_same), rfl, rfl, _, rfl, ?_⟩
      rw [in2]
      refine tC (fun e => ?_) fun _ => skip
      have em : m1 = m := h1.resolve_left (by omega)
      have W2 : Wd K F B1 m _ := em ▸ Wd.grow W1 s0
      refine ⟨_, rfl, _, rfl, _, rfl, B1, m, p, v', N, rfl, W2, G0, hp, hL, by omega, fun B5 H5 m5 s5 G5 L5 W5 => ?_⟩
      exact nxt _ _ (Stg.mk (x := x) (s1.trans s5) G5 (L5.mono (by omega)) W5 (.inl (by omega)))
    clear h1 W1 L1 G1 s1 m1 B1 x H3
    -- kind 9: the link is lost
    rintro σ H3 ⟨x, B1, m1, rfl, s1, G1, L1, W1, h1⟩
    apply join (Pv := Stg K F B m N v' t kd p l fr 9)
    · intro nxt
      have skip := nxt _ _ (Stg.mk (x := x) s1 G1 L1 W1 (h1.imp (fun z => by omega) id))
      refine ⟨_, rfl, rfl, _, rfl, ?_⟩
      refine tC (fun e => ?_) fun _ => iF skip
      refine ⟨_, rfl, _, _, rfl, rfl, cmd, rfl, _, rfl, ?_⟩
      refine tC (fun _ => ?_) fun _ => iF skip
      have em : m1 = m := h1.resolve_left (by have := int_inj e; omega)
      have W2 : Wd K F B1 m H3 := em ▸ W1
      have W2' := W2
      obtain ⟨L2, U2⟩ := W2'
      refine ⟨_, rfl, F.wd, _, rfl, dg U2.atWd "linked" wLi, _, rfl, F.li, _, _, _, rfl, rfl, SqL.of U2.atLi, rng_at hp, _, rfl, ?_⟩
      refine bC (fun _ => ?_) fun _ => skip
      refine ⟨_, rfl, _, rfl, B1, m, p, .int 27, rfl, W2, hp, fun H4 W4 => ?_⟩
      have W4' := W4
      obtain ⟨L4, U4⟩ := W4'
      have C4 : Cs (m.set p ((m.pd p).unlink (.int 27))) := good_cs G0 n5 |> fun q => ⟨q.cd, q.bk, q.few⟩
      refine ⟨_, rfl, _, rfl, F.sw, _, _, rfl, U4.atSw, mSwitch_lost, _, rfl, _, rfl, B1, _, p, t, rfl, W4, C4, fun B5 H5 l5 s5 W5 hA => ?_⟩
      have G5 := lost_good (p := p) (c0 := .int 27) (cause := .int 27) G0 U2.ads
      have S5 := leave_sw2 (p := p) (cause := .int 27) G0 p ((m.pd p).unlink (.int 27))
      have L3 : Lim F.n N (m.set p ((m.pd p).unlink (.int 27))) := hL.set p (Nat.zero_le _) (Nat.zero_le _) (hL.said p hp) (hL.heard p hp)
      have L5 := (L3.mono (Nat.le_succ N)).sw S5.pd (Nat.le_trans S5.bk (Nat.add_le_add_right hL.bk 1))
      have few := S5.few
      refine ⟨B5, _, l5, _, rfl, W5, hA, S5.who, fun j hj => ?_, fun B6 H6 s6 W6 => ?_⟩
      · have := L5.dn j hj
        omega
      · exact nxt _ _ (Stg.mk (x := x) ((s1.trans s5).trans s6) G5 ((L5.perf _).mono (by omega)) W6 (.inl (by have := int_inj e; omega)))
    clear h1 W1 L1 G1 s1 m1 B1 x H3
    -- kind 9: a step
    rintro σ H3 ⟨x, B1, m1, rfl, s1, G1, L1, W1, h1⟩
    have skip : Q .non H3 := k B1 H3 m1 s1 G1 (L1.mono (by omega)) W1
    refine ⟨_, rfl, rfl, _, rfl, ?_⟩
    refine tC (fun e => ?_) fun _ => iF skip
    refine ⟨_, rfl, _, _, rfl, rfl, cmd, rfl, _, rfl, ?_⟩
    refine tC (fun _ => ?_) fun _ => skip
    have W1' := W1
    obtain ⟨L2, U2⟩ := W1'
    refine ⟨_, rfl, _, rfl, F.sw, _, _, rfl, U2.atSw, mSwitch_step, _, rfl, B1, m1, rfl, W1, fun H4 l4 ls s4 nl4 h4 hls => ?_⟩
    obtain ⟨B4, sB4, W4, hl4⟩ : ∃ B4, Same B1 B4 ∧ Wd K F B4 m1 H4 ∧ B4 l4 = some (.lst (ls.map natV)) := by
      have U4 := U2.grow s4
      obtain ⟨U5, s5⟩ := freeze U4 h4 (U2.fr nl4)
      exact ⟨_, s5, ⟨_, U5⟩, upd_same⟩
    refine ⟨_, rfl, B4, m1, l4, ls, t, rfl, W4, G1, hl4, Nat.le_trans hls Wk.bl, fun B5 H5 l5 m5 acts s5 G5 e1 e2 few who W5 hA => ?_⟩
    have L5 : Lim F.n (N + 300) m5 := L1.sw e1 (by rw [e2]; exact L1.bk)
    refine ⟨B5, _, l5, _, rfl, W5, hA, who, fun j hj => ?_, fun B6 H6 s6 W6 => ?_⟩
    · have := L5.dn j hj
      omega
    · exact k B6 H6 _ (((s1.trans sB4).trans s5).trans s6) G5 ((L5.perf _).mono (by omega)) W6
end
end Wk
end
section
set_option Elab.async false
set_option linter.all false
set_option maxRecDepth 100000
/-! The walk: what the law asks after each move. -/
namespace Wk
open PySem L2 He Mth Fl Wl Tx PyProof.Rows
theorem pre_cut {xs rest : List V} : cutV (xs ++ rest) none (some (xs.length : Int)) = xs := by
  unfold cutV
  rw [HT.sIx_none, HT.sIx_nat, List.drop_zero, Nat.sub_zero, Nat.min_eq_left (by rw [List.length_append]; omega), List.take_left]
theorem all_refs {B : Hp} {xs : List V} (h : ∀ v ∈ xs, WordV B v) : ∀ v ∈ xs, ∃ p, v = V.ref p := fun v hv => let ⟨a, _, _, e, _⟩ := h v hv; ⟨a, e⟩
/-- the two phones of a call: what one has said the other has heard, but for what is under way -/
theorem two_ways {n : Nat} {m : M} (G : Mth.Good n m) {c : Cl} {g : Nat} (hc : c ∈ m.cs) (hg : c.cd = some g) (ht : c.st.talk = true) (h1 : (m.pd c.cr).now = .active) (h2 : (m.pd g).now = .active) :
    (m.pd c.cr).said = (m.pd g).heard ++ (words (m.pd g).dn ++ words (m.pd c.cr).up) ∧ (m.pd g).said = (m.pd c.cr).heard ++ (words (m.pd c.cr).dn ++ words (m.pd g).up) := by
  have := (G.call c hc g hg).ci ht (by rw [h1]; simp) (by rw [h2]; simp)
  rw [List.append_assoc, List.append_assoc] at this
  exact this
section
variable {P : Program} {w : World} {K : PySem.W.Frag} {mg : Str → Option Value} {base : Heap} {F : Fx}
def spOrd (K : PySem.W.Frag) : Sp := fun vs H Q _ => ∃ (F : Fx) (B : Hp) (m : M) (b : Bool), vs = [.ref F.wd, .bl b] ∧ Wd K F B m H ∧ Mth.Good F.n m ∧ (b = true → ∀ i, i < F.n → (m.pd i).up = [] ∧ (m.pd i).dn = []) ∧ ∀ H', Same H H' → Q (.bl true) H'
theorem ok_law_ordered (T : Txt K mg) : Has P w K mg base CX0 3 (ga K "_law_ordered") ["_law_world", "_law_whole"] (spOrd K) := by
  obtain ⟨fd, Fn⟩ := fd_law_ordered T
  refine ⟨fd, Fn.ok sc_law_ordered (fun vs H Q E h => ?_) (fun cdv A outer s H vs Q E hr h => ?_), bi_law_ordered Fn, Fn.kp⟩
  · obtain ⟨F, B, m, b, rfl, _⟩ := h
    rfl
  · obtain ⟨F, B, m, b, rfl, W, G0, hb, k⟩ := h
    obtain ⟨_, G_Switch_calls, b_Switch_calls, k_Switch_calls⟩ := ok_Switch_calls (P := P) (w := w) (base := base) (F := F) T
    obtain ⟨_, G_PhoneCall_state, b_PhoneCall_state, k_PhoneCall_state⟩ := ok_PhoneCall_state (P := P) (w := w) (base := base) (F := F) T
    obtain ⟨_, G_PhoneCall_said, b_PhoneCall_said, k_PhoneCall_said⟩ := ok_PhoneCall_said (P := P) (w := w) (base := base) (F := F) T
    obtain ⟨_, G_PhoneCall_heard, b_PhoneCall_heard, k_PhoneCall_heard⟩ := ok_PhoneCall_heard (P := P) (w := w) (base := base) (F := F) T
    have W' := W
    obtain ⟨L, U⟩ := W'
    refine ⟨_, PSs.nox (pss_cons (ps_for PassesOwn.never rfl (pi_list (pe_meth0 (pe_dget (hu_of hr) (pv 0) pe_str (fun _ _ => rfl)) (cl_Switch T) (me_Switch_calls T) G_Switch_calls (hr.mono (by decide)) b_Switch_calls .nil pass0)) (pg_name (i := 2) sc_law_ordered.nd rfl (Or.inl rfl))
      (pss_one (ps_if (pt_cmpR op_in_seq (pe_ix ix_tup (pv 2) pe_int (fun _ _ => rfl)) (pe_tup (pa_cons pe_str (pa_cons pe_str pa_nil))) (by rfl))
        (pss_cons (ps_set (i := 3) sc_law_ordered.nd rfl (Or.inl rfl) (pe_lst (pa_cons (pe_ix ix_list (pe_dget (hu_of hr) (pv 0) pe_str (fun _ _ => rfl)) (pe_ix ix_tup (pv 2) pe_int (fun _ _ => rfl)) (fun _ _ => rfl)) (pa_cons (pe_ix ix_list (pe_dget (hu_of hr) (pv 0) pe_str (fun _ _ => rfl)) (pe_ix ix_tup (pv 2) pe_int (fun _ _ => rfl)) (fun _ _ => rfl)) pa_nil))))
        (pss_one (ps_if (PW.pt (pw_and (pt_cmpR op_eq (pe_prop (pe_ix ix_list (pv 3) pe_int (fun _ _ => rfl)) (cl_PhoneCall T) T.pState G_PhoneCall_state (hr.mono (by decide)) b_PhoneCall_state .nil pass0 rfl) pe_str (nomark _)) (pw_and1 (pt_cmpR op_eq (pe_prop (pe_ix ix_list (pv 3) pe_int (fun _ _ => rfl)) (cl_PhoneCall T) T.pState G_PhoneCall_state (hr.mono (by decide)) b_PhoneCall_state .nil pass0 rfl) pe_str (nomark _)))))
          (pss_one (ps_for PassesOwn.never rfl (pi_range1 rfl (fr_range T) (pa_cons pe_int pa_nil)) (pg_name (i := 4) sc_law_ordered.nd rfl (Or.inl rfl))
            (pss_cons (ps_set (i := 5) sc_law_ordered.nd rfl (Or.inl rfl) (pe_callTy call_list_of (by rfl) (fr_list T) (by decide +kernel) (pa_cons (pe_prop (pe_ix ix_list (pv 3) (pv 4) (fun _ _ => rfl)) (cl_PhoneCall T) T.pSaid G_PhoneCall_said (hr.mono (by decide)) b_PhoneCall_said .nil pass0 rfl) pa_nil)))
            (pss_cons (ps_set (i := 6) sc_law_ordered.nd rfl (Or.inl rfl) (pe_callTy call_list_of (by rfl) (fr_list T) (by decide +kernel) (pa_cons (pe_prop (pe_ix ix_list (pv 3) (pe_op op_sub pe_int (pv 4)) (fun _ _ => rfl)) (cl_PhoneCall T) T.pHeard G_PhoneCall_heard (hr.mono (by decide)) b_PhoneCall_heard .nil pass0 rfl) pa_nil)))
            (pss_one (ps_if (PW.pt (pw_or (pt_cmpR (op_neR (Nat.lt_of_succ_lt (hu_of hr))) (pv 6) (pe_slice sl_list (pv 5) po_none (po_some (pe_callB call_len_seq (by rfl) (fr_len T) PySem.boot_len (pa_cons (pv 6) pa_nil)))) (nomark _)) (pw_or1 (PW.pt (pw_and (pt_val (pv 1)) (pw_and1 (pt_cmpR (op_neR (Nat.lt_of_succ_lt (hu_of hr))) (pv 6) (pv 5) (nomark _))))))))
              (pss_one (ps_ret pe_bl))
              pss_nil))))))
          pss_nil)))
        pss_nil)))
    (pss_one (ps_ret pe_bl))), ?_⟩
    have n5 := U.base.five
    have few := good_few G0
    refine ⟨_, rfl, F.wd, _, rfl, dg U.atWd "switch" wSw, F.sw, _, _, rfl, U.atSw, mSwitch_calls, B, m, rfl, W, by omega, fun H1 l ts s1 h1 hT => ?_⟩
    refine ⟨l, rfl, ⟨_, SqL.of h1⟩, ?_⟩
    refine for_list (K := K) (a := l) (xs := ts.map V.ref) (fun i σ H' => ∃ (a b2 c d e : Option V), σ = [some (.ref F.wd), some (.bl b), a, b2, c, d, e] ∧ Same H1 H') ⟨none, none, none, none, none, rfl, Same.refl _⟩ (fun i σ H' _ ⟨_, _, _, _, _, _, s⟩ => SqL.of (s _ _ h1)) ?_ ?_
    · rintro i x σ H2 hi ⟨a, b2, c2, d, e, rfl, s2⟩
      obtain ⟨t, ht, rfl⟩ := map_at hi
      obtain ⟨c, hc, hCt⟩ := pair_at hT ht
      have hCt : H1 t = some (.tup [natV c.cr, optV c.cd, .str (sgS c.st)]) := hCt
      have hm := List.mem_of_getElem? hc
      obtain ⟨g, hg⟩ := G0.cdS c hm
      have hcr := G0.lt _ (sides_cr hm)
      have hcd := G0.lt _ (sides_cd hm hg)
      rw [hg] at hCt
      refine ⟨_, rfl, t, _, _, _, rfl, rfl, SqT.of (s2 _ _ hCt), atI_nat (j := 2) rfl, Wk.bl, fun t0 nt0 => ?_⟩
      have s3 := s2.trans (same_upd (o := .tup [.str "answered", .str "active"]) nt0)
      refine ⟨_, _, rfl, .inr (SqT.of upd_same), rfl, rfl, _, rfl, ?_⟩
      rw [show inV (V.str (sgS c.st)) [V.str "answered", V.str "active"] = decide (c.st ∈ [Sg.answered, Sg.active]) from inV_str _ [.answered, .active]]
      refine tC (fun hst => ?_) fun _ => ⟨_, _, _, _, _, rfl, s3⟩
      have htalk : c.st.talk = true := by
        rcases List.mem_cons.mp hst with z | z
        · rw [z]
          rfl
        · rw [List.mem_singleton.mp z]
          rfl
      have U3 := (U.grow s1).grow s3
      generalize upd H2 t0 (.tup [V.str "answered", V.str "active"]) = H3 at U3 s3 ⊢
      have at1 := s3 _ _ hCt
      refine ⟨_, rfl, F.wd, _, rfl, dg U3.atWd "calls" wCalls, _, rfl, t, _, _, _, rfl, rfl, SqT.of at1, atI_nat (j := 0) rfl, F.calls, _, _, _, rfl, rfl, SqL.of U3.atCalls, rng_at hcr, ?_⟩
      refine ⟨_, rfl, F.wd, _, rfl, dg U3.atWd "calls" wCalls, _, rfl, t, _, _, _, rfl, rfl, SqT.of at1, atI_nat (j := 1) rfl, F.calls, _, _, _, rfl, rfl, SqL.of U3.atCalls, rng_at hcd, Wk.bl, fun q nq => ?_⟩
      have s4 := s3.trans (same_upd (o := .lst [.ref (F.ph c.cr), .ref (F.ph g)]) nq)
      have U4 := U3.grow (same_upd (o := .lst [.ref (F.ph c.cr), .ref (F.ph g)]) nq)
      have hq : upd H3 q (.lst [.ref (F.ph c.cr), .ref (F.ph g)]) q = some (.lst [.ref (F.ph c.cr), .ref (F.ph g)]) := upd_same
      generalize upd H3 q (.lst [.ref (F.ph c.cr), .ref (F.ph g)]) = H4 at U4 s4 hq ⊢
      have W4 : Wd K F B m H4 := ⟨_, U4⟩
      refine ⟨_, rfl, q, _, _, _, rfl, rfl, SqL.of hq, atI_nat (j := 0) rfl, F.ph c.cr, _, _, rfl, U4.atPh hcr, B, m, c.cr, rfl, W4, hcr, rfl, _, rfl, ?_⟩
      rw [show decide (V.str (nwS (m.pd c.cr).now) = V.str "active") = decide ((m.pd c.cr).now = .active) from nw_eq _ .active]
      refine tC (fun n1 => ?_) fun _ => iF ⟨_, _, _, _, _, rfl, s4⟩
      refine ⟨_, rfl, q, _, _, _, rfl, rfl, SqL.of hq, atI_nat (j := 1) rfl, F.ph g, _, _, rfl, U4.atPh hcd, B, m, g, rfl, W4, hcd, rfl, _, rfl, ?_⟩
      rw [show decide (V.str (nwS (m.pd g).now) = V.str "active") = decide ((m.pd g).now = .active) from nw_eq _ .active]
      refine tC (fun n2 => ?_) fun _ => ⟨_, _, _, _, _, rfl, s4⟩
      obtain ⟨w1, w2⟩ := two_ways G0 hm hg htalk n1 n2
      have nil : b = true → words (m.pd g).dn ++ words (m.pd c.cr).up = [] ∧ words (m.pd c.cr).dn ++ words (m.pd g).up = [] := fun e => by
        rw [(hb e _ hcr).1, (hb e _ hcr).2, (hb e _ hcd).1, (hb e _ hcd).2]
        exact ⟨rfl, rfl⟩
      refine ⟨2, rfl, by decide, by decide, ?_⟩
      refine for_range (lo := 0) (n := 2) (fun i σ H' => ∃ (d e f : Option V), σ = [some (.ref F.wd), some (.bl b), some (.ref t), some (.ref q), d, e, f] ∧ Same H4 H') ⟨_, _, _, rfl, Same.refl _⟩ ?_ ?_
      · rintro j σ H5 hj ⟨d, e, f, rfl, s5⟩
        have hk : ∃ (x y : Nat) (rest : List V), x < F.n ∧ y < F.n ∧ atI [V.ref (F.ph c.cr), V.ref (F.ph g)] (0 + (j : Int)) = some (.ref (F.ph x)) ∧ atI [V.ref (F.ph c.cr), V.ref (F.ph g)] (1 - (0 + (j : Int))) = some (.ref (F.ph y)) ∧ (m.pd x).said = (m.pd y).heard ++ rest ∧ (b = true → rest = []) := by
          rcases (show j = 0 ∨ j = 1 by omega) with rfl | rfl
          · exact ⟨c.cr, g, _, hcr, hcd, rfl, rfl, w1, fun e => (nil e).1⟩
          · exact ⟨g, c.cr, _, hcd, hcr, rfl, rfl, w2, fun e => (nil e).2⟩
        obtain ⟨x, y, rest, hx, hy, ix, iy, hw, hr0⟩ := hk
        have U5 := U4.grow s5
        refine ⟨_, rfl, _, rfl, q, _, _, _, rfl, rfl, SqL.of (s5 _ _ hq), ix, F.ph x, _, _, rfl, U5.atPh hx, B, m, x, rfl, ⟨_, U5⟩, hx, fun H6 t6 s6 h6 => ?_⟩
        refine ⟨_, _, rfl, .inr (SqT.of h6), fun q7 nq7 => ?_⟩
        have s7 := s6.trans (same_upd (o := .lst (m.pd x).said) nq7)
        have h7 : upd H6 q7 (.lst (m.pd x).said) q7 = some (.lst (m.pd x).said) := upd_same
        generalize upd H6 q7 (.lst (m.pd x).said) = H7 at s7 h7 ⊢
        have U7 := U5.grow s7
        refine ⟨_, rfl, _, rfl, _, _, rfl, rfl, q, _, _, _, rfl, rfl, SqL.of (s7 _ _ (s5 _ _ hq)), iy, F.ph y, _, _, rfl, U7.atPh hy, B, m, y, rfl, ⟨_, U7⟩, hy, fun H8 t8 s8 h8 => ?_⟩
        refine ⟨_, _, rfl, .inr (SqT.of h8), fun q9 nq9 => ?_⟩
        have s9 := s8.trans (same_upd (o := .lst (m.pd y).heard) nq9)
        have h9 : upd H8 q9 (.lst (m.pd y).heard) q9 = some (.lst (m.pd y).heard) := upd_same
        generalize upd H8 q9 (.lst (m.pd y).heard) = H9 at s9 h9 ⊢
        have h7' := s9 _ _ h7
        have refs : ∀ v ∈ (m.pd y).heard, ∃ p, v = V.ref p := all_refs (U.fine y hy).heard
        have cut : cutV (m.pd x).said none (some ((m.pd y).heard.length : Int)) = (m.pd y).heard := by rw [hw, pre_cut]
        refine ⟨_, rfl, _, rfl, _, rfl, q9, _, rfl, .inl (SqL.of h9), _, rfl, q7, _, rfl, SqL.of h7', fun qa nqa => ?_⟩
        rw [cut]
        have sa : Same H9 _ := same_upd (o := .lst (m.pd y).heard) nqa
        refine ⟨q9, qa, _, _, rfl, rfl, SqL.of (sa _ _ h9), SqL.of upd_same, .inl ⟨rfl, refs, _, rfl, ?_⟩⟩
        have done : Same H4 _ := ((s5.trans s7).trans s9).trans sa
        refine ⟨_, rfl, _, rfl, bC (fun eb => ?_) fun _ => iF ⟨_, _, _, rfl, done⟩⟩
        rw [hr0 eb, List.append_nil] at hw
        refine ⟨_, rfl, _, rfl, q9, q7, _, _, rfl, rfl, SqL.of (sa _ _ h9), SqL.of (sa _ _ h7'), .inl ⟨hw.symm, refs, _, rfl, ?_⟩⟩
        exact iF ⟨_, _, _, rfl, done⟩
      · rintro σ H5 ⟨d, e, f, rfl, s5⟩
        exact ⟨_, _, _, _, _, rfl, s4.trans s5⟩
    · rintro σ H2 ⟨a, b2, c2, d, e, rfl, s2⟩
      exact k _ (s1.trans s2)
end
end Wk
end
section
set_option Elab.async false
set_option linter.all false
set_option maxRecDepth 100000
/-! The walk: cells, numbers. -/
namespace Wk
open PySem PySem.Spec L2 He Mth Fl Wl Tx PyProof.Rows
/-- '0' * k -/
def rRepS : R2 := fun x y H Q => ∃ k : Int, x = .str "0" ∧ y = .int k ∧ 0 ≤ k ∧ k ≤ 2 ∧ ∀ z : Str, z.length ≤ 2 → Q (.str z) H
theorem op_repS {X : Cx} : OpR X (binaryOp .Mult) rRepS := by
  intro pins s σ H x y v u Q I rx ry h
  obtain ⟨k, rfl, rfl, h0, h2, q⟩ := h
  obtain ⟨t, rfl⟩ := rx
  obtain ⟨t', rfl⟩ := ry
  have l0 : (Str.ofString "0").length = 1 := by decide +kernel
  rcases (show k = 0 ∨ k = 1 ∨ k = 2 by omega) with rfl | rfl | rfl
  · exact PySem.P.mul_str_none (by omega) (by omega) ⟨.str Str.empty, H, I.tok _, ⟨_, rfl⟩, q _ (by decide)⟩
  · refine PySem.P.mul_str (by decide) (fun _ z => ?_) (fun _ z => ?_) ?_
    · simp at z
    · simp at z
    · rw [if_neg (by omega), if_pos (by rfl)]
      exact ⟨.str "0", H, I, ⟨_, rfl⟩, q _ (by rw [l0]; omega)⟩
  · refine PySem.P.mul_str (by decide) (fun _ _ => by rw [l0]; decide) (fun _ _ => by rw [l0]; decide) ?_
    rw [if_neg (by omega), if_neg (by rw [l0]; decide)]
    exact ⟨by decide +kernel, ⟨.str _, H, I.tok _, ⟨_, rfl⟩, q _ (by decide +kernel)⟩⟩
/-- the text of a number tells its last digit -/
theorem nat_text {q r : Nat} (hr : r < 10) (hq : q < 1000000) : ∃ ds : List Char, (10 * q + r).repr.toList = ds ++ [Nat.digitChar r] ∧ ds.length ≤ 10 := by
  rw [Nat.toList_repr]
  have hl : (Nat.toDigits 10 (10 * q + r)).length ≤ 7 := (Nat.length_toDigits_le_iff (by decide) (by decide)).mpr (by omega)
  rcases Nat.eq_zero_or_pos q with rfl | h
  · rw [Nat.mul_zero, Nat.zero_add, Nat.toDigits_of_lt_base hr]
    exact ⟨[], rfl, Nat.zero_le _⟩
  · rw [← Nat.toDigits_append_toDigits (by decide) h hr, Nat.toDigits_of_lt_base hr] at hl ⊢
    refine ⟨_, rfl, ?_⟩
    rw [List.length_append] at hl
    omega
theorem int_text {q r : Nat} (hr : r < 10) (hq : q < 1000000) : (Str.ofString (toString ((10 * q + r : Nat) : Int))).length ≤ 11 ∧ (Str.ofString (toString ((10 * q + r : Nat) : Int))).cps.toList.getLast? = some (Nat.digitChar r).toNat := by
  obtain ⟨ds, e, hl⟩ := nat_text (q := q) hr hq
  have e1 : toString ((10 * q + r : Nat) : Int) = (10 * q + r).repr := rfl
  rw [e1, Str.ofString_eq_toList, e]
  constructor
  · show (((ds ++ [Nat.digitChar r]).map Char.toNat).toArray).size ≤ 11
    rw [List.size_toArray, List.length_map, List.length_append]
    show ds.length + 1 ≤ 11
    omega
  · show ((ds ++ [Nat.digitChar r]).map Char.toNat).getLast? = _
    rw [List.map_append]
    simp
/-- the k-th person's number ends so -/
def NumK (k : Nat) (z : Str) : Prop := z.cps.toList.getLast? = some (Nat.digitChar (k + 1)).toNat
theorem numK_inj {i j : Nat} (hi : i < 5) (hj : j < 5) {z : Str} (h1 : NumK i z) (h2 : NumK j z) : i = j := by
  unfold NumK at h1 h2
  rw [h1] at h2
  have e := Option.some.inj h2
  have : ∀ i j : Fin 5, (Nat.digitChar (i.val + 1)).toNat = (Nat.digitChar (j.val + 1)).toNat → i = j := by decide +kernel
  have := this ⟨i, hi⟩ ⟨j, hj⟩ e
  exact congrArg Fin.val this
theorem numK_app {k : Nat} {a z : Str} (h : NumK k z) : NumK k (a ++ z) := by
  unfold NumK at h ⊢
  show (a.cps ++ z.cps).toList.getLast? = _
  rw [Array.toList_append, List.getLast?_append, h]
  rfl
theorem cdv' {i j : Int} (h1 : (0 : Int) < j := by decide) (h2 : j < 1073741824 := by decide) : CDiv i j := ⟨h1, h2⟩
theorem mulL {i j : Int} (h : (decide (-(2 ^ 64) < i) && decide (i < 2 ^ 64)) = true := by decide) : CMul i j := by
  rw [Bool.and_eq_true] at h
  exact .inl ⟨of_decide_eq_true h.1, of_decide_eq_true h.2⟩
theorem mulR {i j : Int} (h : (decide (-(2 ^ 64) < j) && decide (j < 2 ^ 64)) = true := by decide) : CMul i j := by
  rw [Bool.and_eq_true] at h
  exact .inr ⟨of_decide_eq_true h.1, of_decide_eq_true h.2⟩
section
variable {P : Program} {w : World} {K : PySem.W.Frag} {mg : Str → Option Value} {base : Heap} {F : Fx}
def spMix (K : PySem.W.Frag) : Sp := fun vs H Q _ => ∃ (c t : Int), vs = [.int c, .int t] ∧ ∀ r, Q (.int r) H
theorem ok_law_mixed (T : Txt K mg) : Has P w K mg base CX0 1 (ga K "_law_mixed") ["_law_cell_here", "_law_turn"] (spMix K) := by
  obtain ⟨fd, Fn⟩ := fd_law_mixed T
  refine ⟨fd, Fn.ok sc_law_mixed (fun vs H Q E h => ?_) (fun cdv A outer s H vs Q E hr h => ?_), bi_law_mixed Fn, Fn.kp⟩
  · obtain ⟨c, t, rfl, _⟩ := h
    rfl
  · obtain ⟨c, t, rfl, k⟩ := h
    refine ⟨_, PSs.nox (pss_cons (ps_set (i := 2) sc_law_mixed.nd rfl (Or.inl rfl) (pe_callTy call_int1 (by rfl) (fr_int T) (by decide +kernel) (pa_cons (pv 0) pa_nil)))
    (pss_cons (ps_if (pt_cmpR op_ge (pv 2) (pe_op op_pow pe_int pe_int) (nomark _))
      (pss_one (ps_ret (pv 2)))
      pss_nil)
    (pss_cons (ps_set (i := 3) sc_law_mixed.nd rfl (Or.inl rfl) (pe_op op_mod (pe_op op_add (pe_op op_mul (pe_op op_mod (pv 2) pe_int) pe_int) (pe_op op_mul pe_int (pe_op op_add (pv 1) pe_int))) pe_int))
    (pss_cons (ps_set (i := 4) sc_law_mixed.nd rfl (Or.inl rfl) (pe_op op_mod (pe_op op_add (pe_op op_mul (pv 3) pe_int) (pe_op op_mod (pv 2) pe_int)) pe_int))
    (pss_cons (ps_set (i := 5) sc_law_mixed.nd rfl (Or.inl rfl) (pe_op op_mod (pe_op op_add (pe_op op_mul (pv 4) pe_int) (pv 3)) pe_int))
    (pss_one (ps_ret (pe_op op_add (pe_op op_add (pv 3) (pe_op op_mul pe_int (pv 4))) (pe_op op_mul pe_int (pv 5)))))))))), ?_⟩
    refine ⟨_, rfl, .inl ⟨_, rfl, ?_⟩⟩
    refine ⟨_, rfl, _, _, rfl, rfl, ⟨by decide, by decide, by decide⟩, _, _, rfl, rfl, _, rfl, ?_⟩
    refine tC (fun _ => ⟨_, rfl, k _⟩) fun _ => ?_
    refine ⟨_, rfl, _, _, rfl, rfl, cmd, _, _, rfl, rfl, mulR, _, rfl, _, _, rfl, rfl, _, _, rfl, rfl, mulL, _, _, rfl, rfl, _, _, rfl, rfl, cmd, ?_⟩
    refine ⟨_, rfl, _, _, rfl, rfl, mulR, _, rfl, _, _, rfl, rfl, cmd, _, _, rfl, rfl, _, _, rfl, rfl, cmd, ?_⟩
    refine ⟨_, rfl, _, _, rfl, rfl, mulR, _, rfl, _, _, rfl, rfl, _, _, rfl, rfl, cmd, ?_⟩
    exact ⟨_, rfl, _, rfl, _, _, rfl, rfl, mulL, _, _, rfl, rfl, _, rfl, _, _, rfl, rfl, mulL, _, _, rfl, rfl, k _⟩
/-- the script: a list of ints -/
def spCellL (K : PySem.W.Frag) : Sp := fun vs H Q _ => ∃ (l : Addr) (ns : List Int) (j : Nat), vs = [.ref l, natV j] ∧ SqL K H l (ns.map V.int) ∧ ∀ r, Q (.int r) H
theorem ok_law_cell (T : Txt K mg) : Has P w K mg base CX0 2 (ga K "_law_cell") ["_law_script", "_law_k"] (spCellL K) := by
  obtain ⟨fd, Fn⟩ := fd_law_cell T
  obtain ⟨_, G_law_mixed, b_law_mixed, k_law_mixed⟩ := ok_law_mixed (P := P) (w := w) (base := base) T
  refine ⟨fd, Fn.ok sc_law_cell (fun vs H Q E h => ?_) (fun cdv A outer s H vs Q E hr h => ?_), bi_law_cell Fn, Fn.kp⟩
  · obtain ⟨l, ns, j, rfl, _⟩ := h
    rfl
  · obtain ⟨l, ns, j, rfl, hl, k⟩ := h
    refine ⟨_, PSs.nox (pss_cons (ps_if (pt_cmpR op_lt (pv 1) (pe_callB call_len_seq (by rfl) (fr_len T) PySem.boot_len (pa_cons (pv 0) pa_nil)) (nomark _))
      (pss_one (ps_ret (pe_call G_law_mixed (hr.mono (by decide)) rfl (mg_law_mixed T) k_law_mixed b_law_mixed .nil pass0 (pa_cons (pe_ix ix_list (pv 0) (pv 1) (fun _ _ => rfl)) (pa_cons (pv 1) pa_nil)))))
      pss_nil)
    (pss_one (ps_ret (pe_call G_law_mixed (hr.mono (by decide)) rfl (mg_law_mixed T) k_law_mixed b_law_mixed .nil pass0 (pa_cons pe_int (pa_cons (pv 1) pa_nil)))))), ?_⟩
    refine ⟨_, rfl, _, rfl, l, _, rfl, .inl hl, _, _, rfl, rfl, _, rfl, ?_⟩
    refine tC (fun z => ?_) fun _ => ?_
    · have hj : j < ns.length := by
        rw [List.length_map] at z
        omega
      exact ⟨_, rfl, _, rfl, l, _, _, _, rfl, rfl, hl, atI_nat (by rw [List.getElem?_map, List.getElem?_eq_getElem hj]; rfl), _, rfl, _, _, rfl, k⟩
    · exact ⟨_, rfl, _, _, rfl, k⟩
def spNum (K : PySem.W.Frag) : Sp := fun vs H Q _ => ∃ (l : Addr) (ns : List Int) (j : Nat), vs = [.ref l, natV j] ∧ SqL K H l (ns.map V.int) ∧ j < 5 ∧ ∀ z, NumK j z → Q (.str z) H
theorem ok_law_number (T : Txt K mg) : Has P w K mg base CX0 3 (ga K "_law_number") ["_law_script", "_law_k"] (spNum K) := by
  obtain ⟨fd, Fn⟩ := fd_law_number T
  obtain ⟨_, G_law_cell, b_law_cell, k_law_cell⟩ := ok_law_cell (P := P) (w := w) (base := base) T
  refine ⟨fd, Fn.ok sc_law_number (fun vs H Q E h => ?_) (fun cdv A outer s H vs Q E hr h => ?_), bi_law_number Fn, Fn.kp⟩
  · obtain ⟨l, ns, j, rfl, _⟩ := h
    rfl
  · obtain ⟨l, ns, j, rfl, hl, hj, k⟩ := h
    refine ⟨_, PSs.nox (pss_cons (ps_set (i := 2) sc_law_number.nd rfl (Or.inl rfl) (pe_call G_law_cell (hr.mono (by decide)) rfl (mg_law_cell T) k_law_cell b_law_cell .nil pass0 (pa_cons (pv 0) (pa_cons (pe_op op_add (pe_op op_mul pe_int (pv 1)) pe_int) pa_nil))))
    (pss_one (ps_ret (pe_op op_add_str (pe_op op_repS pe_str (pe_op op_mod (pe_op op_fdiv (pv 2) pe_int) pe_int)) (pe_callTy call_str_int (by rfl) (fr_str T) (by decide +kernel) (pa_cons (pe_op op_add (pe_op op_add (pe_op op_mul (pe_op op_mod (pv 2) pe_int) pe_int) (pv 1)) pe_int) pa_nil)))))), ?_⟩
    refine ⟨_, rfl, _, rfl, _, _, rfl, rfl, mulL, _, _, rfl, rfl, l, ns, 2 * j + 1, ?_, hl, fun c => ?_⟩
    · show [V.ref l, V.int (2 * (j : Int) + 1)] = [V.ref l, V.int ((2 * j + 1 : Nat) : Int)]
      rw [show ((2 * j + 1 : Nat) : Int) = 2 * (j : Int) + 1 by omega]
    obtain ⟨q, hq⟩ := Int.eq_ofNat_of_zero_le (Int.emod_nonneg c (show (900 : Int) ≠ 0 by decide))
    have hq9 : q < 900 := by
      have := Int.emod_lt_of_pos c (show (0 : Int) < 900 by decide)
      omega
    have ev : c % 900 * 10 + (j : Int) + 1 = ((10 * q + (j + 1) : Nat) : Int) := by omega
    obtain ⟨tl, te⟩ := int_text (q := q) (r := j + 1) (by omega) (by omega)
    have lg : ((10 * q + (j + 1) : Nat) : Int).natAbs.log2 < 1920 := by
      rw [Int.natAbs_natCast]
      exact Nat.lt_trans ((Nat.log2_lt (by omega)).mpr (show 10 * q + (j + 1) < 2 ^ 14 by omega)) (by decide)
    rw [← ev] at tl te lg
    refine ⟨_, rfl, _, _, rfl, rfl, Wk.cdv, _, _, rfl, rfl, cmd, c / 900 % 3, rfl, rfl, by omega, by omega, fun z hz => ?_⟩
    refine ⟨_, rfl, _, _, rfl, rfl, cmd, _, _, rfl, rfl, mulR, _, rfl, _, _, rfl, rfl, _, _, rfl, rfl, _, rfl, lg, _, _, rfl, rfl, ?_, k _ (numK_app te)⟩
    exact Nat.le_trans (Nat.add_le_add hz tl) Wk.bl
end
end Wk
end
section
set_option Elab.async false
set_option linter.all false
set_option maxRecDepth 100000
/-! The walk: what is made; objects by roles. -/
namespace Wk
open PySem L2 He Mth Fl Wl Tx PyProof.Rows
/-- objects by roles: each at its place, all apart, none of what stays -/
structure Tg (ob : Ro → Option HO) (ad : Ro → Addr) (B H : Hp) : Prop where
  same : Same B H
  objs : ∀ r o, ob r = some o → H (ad r) = some o
  inj : ∀ r r' o o', ob r = some o → ob r' = some o' → ad r = ad r' → r = r'
  out : ∀ r o, ob r = some o → B (ad r) = none
section
variable {ob ob' : Ro → Option HO} {ad ad' : Ro → Addr} {B H H' : Hp}
/-- p is free of all this -/
def FrT (ob : Ro → Option HO) (ad : Ro → Addr) (B : Hp) (p : Addr) : Prop := B p = none ∧ ∀ q u, ob q = some u → ad q ≠ p
theorem Tg.fr (h : Tg ob ad B H) {p : Addr} (np : H p = none) : FrT ob ad B p := ⟨h.same.free np, fun q u e z => by
  rw [← z, h.objs q u e] at np
  cases np⟩
theorem Tg.grow (h : Tg ob ad B H) (s : Same H H') : Tg ob ad B H' := { h with same := h.same.trans s, objs := fun r o e => s _ _ (h.objs r o e) }
theorem Tg.congr (h : Tg ob ad B H) (k : ∀ r o, ob' r = some o → ob r = some o ∧ ad' r = ad r) : Tg ob' ad' B H :=
  ⟨h.same, fun r o e => by rw [(k r o e).2]; exact h.objs r o (k r o e).1, fun r r' o o' e e' z => by
    rw [(k r o e).2, (k r' o' e').2] at z
    exact h.inj r r' o o' (k r o e).1 (k r' o' e').1 z, fun r o e => by rw [(k r o e).2]; exact h.out r o (k r o e).1⟩
theorem Tg.put (h : Tg ob ad B H) {r : Ro} {u o1 : HO} (e : ob r = some u) (ho : ∀ q o, ob' q = some o → (q = r ∧ o = o1) ∨ (q ≠ r ∧ ob q = some o)) : Tg ob' ad B (upd H (ad r) o1) := by
  have live : ∀ q o, ob' q = some o → ∃ o', ob q = some o' := fun q o k => by
    rcases ho q o k with ⟨rfl, _⟩ | ⟨_, z⟩
    · exact ⟨u, e⟩
    · exact ⟨o, z⟩
  refine ⟨fun b o k => ?_, fun q o k => ?_, fun q q' o o' k k' z => ?_, fun q o k => ?_⟩
  · have : b ≠ ad r := fun z => by
      rw [z, h.out r u e] at k
      cases k
    rw [upd_ne this]
    exact h.same _ _ k
  · rcases ho q o k with ⟨rfl, rfl⟩ | ⟨nq, z⟩
    · exact upd_same
    · rw [upd_ne fun y => nq (h.inj q r o u z e y)]
      exact h.objs q o z
  · obtain ⟨_, k1⟩ := live q o k
    obtain ⟨_, k2⟩ := live q' o' k'
    exact h.inj q q' _ _ k1 k2 z
  · obtain ⟨_, k1⟩ := live q o k
    exact h.out q _ k1
theorem Tg.new (h : Tg ob ad B H) {p : Addr} {r : Ro} {o1 : HO} (fr : FrT ob ad B p) (s : Same H H') (hp : H' p = some o1) (ha : ad' r = p) (ha2 : ∀ q, q ≠ r → ad' q = ad q) (ho : ∀ q o, ob' q = some o → (q = r ∧ o = o1) ∨ (q ≠ r ∧ ob q = some o)) : Tg ob' ad' B H' := by
  refine ⟨h.same.trans s, fun q o k => ?_, fun q q' o o' k k' z => ?_, fun q o k => ?_⟩
  · rcases ho q o k with ⟨rfl, rfl⟩ | ⟨nq, y⟩
    · rw [ha]
      exact hp
    · rw [ha2 q nq]
      exact s _ _ (h.objs q o y)
  · rcases ho q o k with ⟨rfl, rfl⟩ | ⟨nq, y⟩ <;> rcases ho q' o' k' with ⟨rfl, rfl⟩ | ⟨nq', y'⟩
    · rfl
    · rw [ha, ha2 q' nq'] at z
      exact absurd z.symm (fr.2 q' o' y')
    · rw [ha, ha2 q nq] at z
      exact absurd z (fr.2 q o y)
    · rw [ha2 q nq, ha2 q' nq'] at z
      exact h.inj q q' o o' y y' z
  · rcases ho q o k with ⟨rfl, rfl⟩ | ⟨nq, y⟩
    · rw [ha]
      exact fr.1
    · rw [ha2 q nq]
      exact h.out q o y
theorem FrT.new {p q : Addr} {r : Ro} (f : FrT ob ad B q) (ne : p ≠ q) (ha : ad' r = p) (ha2 : ∀ q, q ≠ r → ad' q = ad q) (ho : ∀ q o, ob' q = some o → q = r ∨ (q ≠ r ∧ ob q = some o)) : FrT ob' ad' B q := ⟨f.1, fun x u k => by
  rcases ho x u k with rfl | ⟨nx, y⟩
  · rw [ha]
    exact ne
  · rw [ha2 x nx]
    exact f.2 x u y⟩
theorem FrT.put {q : Addr} {r : Ro} {u : HO} (f : FrT ob ad B q) (e : ob r = some u) (ho : ∀ q o, ob' q = some o → q = r ∨ (q ≠ r ∧ ob q = some o)) : FrT ob' ad B q := ⟨f.1, fun x w k => by
  rcases ho x w k with rfl | ⟨nx, y⟩
  · exact f.2 x u e
  · exact f.2 x w y⟩
/-- a new thing that stays -/
theorem Tg.imm (h : Tg ob ad B H) {p : Addr} (np : H p = none) (o : HO) : Tg ob ad (upd B p o) (upd H p o) ∧ Same B (upd B p o) := by
  have fr := h.fr np
  refine ⟨⟨fun b u e => ?_, fun r u e => ?_, h.inj, fun r u e => ?_⟩, same_upd fr.1⟩
  · by_cases z : b = p
    · rw [z, upd_same] at e
      rw [z, upd_same]
      exact e
    · rw [upd_ne z] at e
      rw [upd_ne z]
      exact h.same _ _ e
  · rw [upd_ne (fr.2 r u e)]
    exact h.objs r u e
  · rw [upd_ne (fr.2 r u e)]
    exact h.out r u e
/-- a role's object stays from now on -/
theorem Tg.stay (h : Tg ob ad B H) {r : Ro} {o : HO} (e : ob r = some o) (ho : ∀ q u, ob' q = some u → q ≠ r ∧ ob q = some u) : Tg ob' ad (upd B (ad r) o) H ∧ Same B (upd B (ad r) o) := by
  refine ⟨⟨fun b u k => ?_, fun q u k => h.objs q u (ho q u k).2, fun q q' u u' k k' z => h.inj q q' u u' (ho q u k).2 (ho q' u' k').2 z, fun q u k => ?_⟩, same_upd (h.out r o e)⟩
  · by_cases z : b = ad r
    · rw [z, upd_same] at k
      rw [z, ← k]
      exact h.objs r o e
    · rw [upd_ne z] at k
      exact h.same _ _ k
  · rw [upd_ne fun z => (ho q u k).1 (h.inj q r u o (ho q u k).2 e z)]
    exact h.out q u (ho q u k).2
end
/-- all but x stays -/
def Off (H H' : Hp) (x : Addr) : Prop := ∀ b o, b ≠ x → H b = some o → H' b = some o
section
variable {P : Program} {w : World} {K : PySem.W.Frag} {mg : Str → Option Value} {base : Heap} {F : Fx}
def spBookI (K : PySem.W.Frag) : Sp := fun vs H Q _ => ∃ (x dx : Addr), vs = [.ref x] ∧ H x = some (.ins (ga K "Book") dx []) ∧ ∀ H' l, Off H H' x → H l = none → H' l = some (.lst []) → H' x = some (.ins (ga K "Book") dx (FBook (.ref l))) → Q .non H'
theorem ok_Book_init (T : Txt K mg) : Has P w K mg base CX0 1 (ma K (ga K "Book") "__init__") ["self"] (spBookI K) := by
  obtain ⟨fd, Fn⟩ := fd_Book_init T
  refine ⟨fd, Fn.ok sc_Book_init (fun vs H Q E h => ?_) (fun cdv A outer s H vs Q E hr h => ?_), bi_Book_init Fn, Fn.kp⟩
  · obtain ⟨x, dx, rfl, _⟩ := h
    rfl
  · obtain ⟨x, dx, rfl, hx, k⟩ := h
    refine ⟨_, PSs.nox (pss_one (ps_fld (pv 0) (pe_lst pa_nil) rfl)), ?_⟩
    refine ⟨Wk.bl, fun l nl => ?_⟩
    have nx : x ≠ l := ne_of_none hx nl
    refine ⟨_, rfl, x, _, dx, _, rfl, (upd_ne nx).trans hx, cl_Book T, na_Book_rows T, Wk.bl, ?_⟩
    refine k _ l (fun b o nb e => ?_) nl ?_ ?_
    · rw [upd_ne nb]
      exact same_upd nl _ _ e
    · rw [upd_ne nx.symm, upd_same]
    · rw [upd_same, iBook]
def spHomeI (K : PySem.W.Frag) : Sp := fun vs H Q _ => ∃ (x dx : Addr), vs = [.ref x] ∧ H x = some (.ins (ga K "Home") dx []) ∧ ∀ H' l, Off H H' x → H l = none → H' l = some (.lst []) → H' x = some (.ins (ga K "Home") dx (FHome (.ref l))) → Q .non H'
theorem ok_Home_init (T : Txt K mg) : Has P w K mg base CX0 1 (ma K (ga K "Home") "__init__") ["self"] (spHomeI K) := by
  obtain ⟨fd, Fn⟩ := fd_Home_init T
  refine ⟨fd, Fn.ok sc_Home_init (fun vs H Q E h => ?_) (fun cdv A outer s H vs Q E hr h => ?_), bi_Home_init Fn, Fn.kp⟩
  · obtain ⟨x, dx, rfl, _⟩ := h
    rfl
  · obtain ⟨x, dx, rfl, hx, k⟩ := h
    refine ⟨_, PSs.nox (pss_one (ps_fld (pv 0) (pe_lst pa_nil) rfl)), ?_⟩
    refine ⟨Wk.bl, fun l nl => ?_⟩
    have nx : x ≠ l := ne_of_none hx nl
    refine ⟨_, rfl, x, _, dx, _, rfl, (upd_ne nx).trans hx, cl_Home T, na_Home_rows T, Wk.bl, ?_⟩
    refine k _ l (fun b o nb e => ?_) nl ?_ ?_
    · rw [upd_ne nb]
      exact same_upd nl _ _ e
    · rw [upd_ne nx.symm, upd_same]
    · rw [upd_same, iHome]
def spPersonI (K : PySem.W.Frag) : Sp := fun vs H Q _ => ∃ (x dx : Addr) (d z : V), vs = [.ref x, d, z] ∧ H x = some (.ins (ga K "Person") dx []) ∧ ∀ H' l, Off H H' x → H l = none → H' l = some (.dK []) → H' x = some (.ins (ga K "Person") dx (FPerson d z .non (.ref l))) → Q .non H'
theorem ok_Person_init (T : Txt K mg) : Has P w K mg base CX0 1 (ma K (ga K "Person") "__init__") ["self", "digits", "number"] (spPersonI K) := by
  obtain ⟨fd, Fn⟩ := fd_Person_init T
  refine ⟨fd, Fn.ok sc_Person_init (fun vs H Q E h => ?_) (fun cdv A outer s H vs Q E hr h => ?_), bi_Person_init Fn, Fn.kp⟩
  · obtain ⟨x, dx, d, z, rfl, _⟩ := h
    rfl
  · obtain ⟨x, dx, d, z, rfl, hx, k⟩ := h
    refine ⟨_, PSs.nox (pss_cons (ps_fld (pv 0) (pv 1) rfl)
    (pss_cons (ps_fld (pv 0) (pv 2) rfl)
    (pss_cons (ps_fld (pv 0) pe_non rfl)
    (pss_one (ps_fld (pv 0) pe_dnewK rfl))))), ?_⟩
    refine ⟨_, rfl, _, rfl, x, _, dx, _, rfl, hx, cl_Person T, na_Person_digits T, Wk.bl, ?_⟩
    refine ⟨_, rfl, _, rfl, x, _, dx, _, rfl, upd_same, cl_Person T, na_Person_number T, Wk.bl, ?_⟩
    refine ⟨_, rfl, x, _, dx, _, rfl, upd_same, cl_Person T, na_Person_area T, Wk.bl, ?_⟩
    refine fun l nl => ?_
    have nx : l ≠ x := fun e => by
      rw [e, upd_same] at nl
      cases nl
    rw [upd_ne nx, upd_ne nx, upd_ne nx] at nl
    refine ⟨_, rfl, x, _, dx, _, rfl, (upd_ne nx.symm).trans upd_same, cl_Person T, na_Person_numbers T, Wk.bl, ?_⟩
    refine k _ l (fun b o nb e => ?_) nl ?_ ?_
    · rw [upd_ne nb, upd_ne (ne_of_none e nl), upd_ne nb, upd_ne nb, upd_ne nb]
      exact e
    · rw [upd_ne nx, upd_same]
    · rw [upd_same, iPerson]
def spSwitchI (K : PySem.W.Frag) : Sp := fun vs H Q _ => ∃ (x dx home : Addr), vs = [.ref x, .ref home] ∧ H x = some (.ins (ga K "Switch") dx []) ∧
  ∀ H' y dy l l2, Off H H' x → H y = none → H l = none → H l2 = none → y ≠ l → y ≠ l2 → l ≠ l2 → H' l = some (.lst []) → H' l2 = some (.lst []) → H' y = some (.ins (ga K "Book") dy (FBook (.ref l))) → H' x = some (.ins (ga K "Switch") dx (FSwitch (.ref home) (.ref y) (.ref l2))) → Q .non H'
theorem ok_Switch_init (T : Txt K mg) : Has P w K mg base CX0 3 (ma K (ga K "Switch") "__init__") ["self", "home"] (spSwitchI K) := by
  obtain ⟨fd, Fn⟩ := fd_Switch_init T
  obtain ⟨_, G_Book_init, b_Book_init, k_Book_init⟩ := ok_Book_init (P := P) (w := w) (base := base) T
  refine ⟨fd, Fn.ok sc_Switch_init (fun vs H Q E h => ?_) (fun cdv A outer s H vs Q E hr h => ?_), bi_Switch_init Fn, Fn.kp⟩
  · obtain ⟨x, dx, home, rfl, _⟩ := h
    rfl
  · obtain ⟨x, dx, home, rfl, hx, k⟩ := h
    refine ⟨_, PSs.nox (pss_cons (ps_fld (pv 0) (pv 1) rfl)
    (pss_cons (ps_fld (pv 0) (pe_make0 (mk_Book T) G_Book_init (hr.mono (by decide)) rfl (mg_Book T) b_Book_init .nil pass0) rfl)
    (pss_one (ps_fld (pv 0) (pe_lst pa_nil) rfl)))), ?_⟩
    refine ⟨_, rfl, _, rfl, x, _, dx, _, rfl, hx, cl_Switch T, na_Switch_home T, Wk.bl, ?_⟩
    refine fun y dy ny ndy nyd => ?_
    have yx : y ≠ x := fun e => by
      rw [e, upd_same] at ny
      cases ny
    have dyx : dy ≠ x := fun e => by
      rw [e, upd_same] at ndy
      cases ndy
    refine ⟨y, dy, rfl, upd_same, fun H1 l off nl hl hy => ⟨rfl, ?_⟩⟩
    have ly : l ≠ y := fun e => by
      rw [e, upd_same] at nl
      cases nl
    rw [upd_ne ly] at nl
    have ldy : l ≠ dy := fun e => by
      rw [e, upd_same] at nl
      cases nl
    rw [upd_ne ldy] at nl
    have lx : l ≠ x := fun e => by
      rw [e, upd_same] at nl
      cases nl
    have hx1 := off x _ yx.symm ((upd_ne yx.symm).trans ((upd_ne dyx.symm).trans upd_same))
    refine ⟨_, rfl, x, _, dx, _, rfl, hx1, cl_Switch T, na_Switch_book T, Wk.bl, ?_⟩
    refine ⟨Wk.bl, fun l2 nl2 => ?_⟩
    have l2x : l2 ≠ x := fun e => by
      rw [e, upd_same] at nl2
      cases nl2
    rw [upd_ne l2x] at nl2
    refine ⟨_, rfl, x, _, dx, _, rfl, (upd_ne l2x.symm).trans upd_same, cl_Switch T, na_Switch_rows T, Wk.bl, ?_⟩
    have keep : ∀ b o, b ≠ x → H b = some o → H1 b = some o := fun b o nb e => by
      have e1 : upd H x (.ins (ga K "Switch") dx (putF "home" (V.ref home) [])) b = some o := (upd_ne nb).trans e
      refine off b o (ne_of_none e1 ny) ?_
      rw [upd_ne (ne_of_none e1 ny), upd_ne (ne_of_none e1 ndy)]
      exact e1
    have back : ∀ b, b ≠ x → H1 b = none → H b = none := fun b nb e => by
      cases eb : H b with
      | none => rfl
      | some o =>
        rw [keep b o nb eb] at e
        cases e
    refine k _ y dy l l2 (fun b o nb e => ?_) ?_ ?_ (back _ l2x nl2) ly.symm (ne_of_none hy nl2) (ne_of_none hl nl2) ?_ ?_ ?_ ?_
    · have e1 := keep b o nb e
      rw [upd_ne nb, upd_ne (ne_of_none e1 nl2), upd_ne nb]
      exact e1
    · rw [upd_ne yx] at ny
      exact ny
    · rw [upd_ne lx] at nl
      exact nl
    · rw [upd_ne lx, upd_ne (ne_of_none hl nl2), upd_ne lx]
      exact hl
    · rw [upd_ne l2x, upd_same]
    · rw [upd_ne yx, upd_ne (ne_of_none hy nl2), upd_ne yx]
      exact hy
    · rw [upd_same, iSwitch]
def phF0 (s h : Addr) : List (Str × V) := FPhoneCall (.str "idle") (.int 0) (.str "") (.bl false) (.ref s) (.ref h)
def spPhoneI (K : PySem.W.Frag) : Sp := fun vs H Q _ => ∃ (x dx : Addr), vs = [.ref x] ∧ H x = some (.ins (ga K "PhoneCall") dx []) ∧
  ∀ H' l l2, Off H H' x → H l = none → H l2 = none → l ≠ l2 → H' l = some (.lst []) → H' l2 = some (.lst []) → H' x = some (.ins (ga K "PhoneCall") dx (phF0 l l2)) → Q .non H'
theorem ok_PhoneCall_init (T : Txt K mg) : Has P w K mg base CX0 1 (ma K (ga K "PhoneCall") "__init__") ["self"] (spPhoneI K) := by
  obtain ⟨fd, Fn⟩ := fd_PhoneCall_init T
  refine ⟨fd, Fn.ok sc_PhoneCall_init (fun vs H Q E h => ?_) (fun cdv A outer s H vs Q E hr h => ?_), bi_PhoneCall_init Fn, Fn.kp⟩
  · obtain ⟨x, dx, rfl, _⟩ := h
    rfl
  · obtain ⟨x, dx, rfl, hx, k⟩ := h
    refine ⟨_, PSs.nox (pss_cons (ps_fld (pv 0) pe_str rfl)
    (pss_cons (ps_fld (pv 0) pe_int rfl)
    (pss_cons (ps_fld (pv 0) pe_str rfl)
    (pss_cons (ps_fld (pv 0) pe_bl rfl)
    (pss_cons (ps_fld (pv 0) (pe_lst pa_nil) rfl)
    (pss_one (ps_fld (pv 0) (pe_lst pa_nil) rfl))))))), ?_⟩
    refine ⟨_, rfl, x, _, dx, _, rfl, hx, cl_PhoneCall T, na_PhoneCall_now T, Wk.bl, ?_⟩
    refine ⟨_, rfl, x, _, dx, _, rfl, upd_same, cl_PhoneCall T, na_PhoneCall_reason T, Wk.bl, ?_⟩
    refine ⟨_, rfl, x, _, dx, _, rfl, upd_same, cl_PhoneCall T, na_PhoneCall_number T, Wk.bl, ?_⟩
    refine ⟨_, rfl, x, _, dx, _, rfl, upd_same, cl_PhoneCall T, na_PhoneCall_marked T, Wk.bl, ?_⟩
    refine ⟨Wk.bl, fun l nl => ?_⟩
    have lx : l ≠ x := fun e => by
      rw [e, upd_same] at nl
      cases nl
    rw [upd_ne lx, upd_ne lx, upd_ne lx, upd_ne lx] at nl
    refine ⟨_, rfl, x, _, dx, _, rfl, (upd_ne lx.symm).trans upd_same, cl_PhoneCall T, na_PhoneCall_words_said T, Wk.bl, ?_⟩
    refine ⟨Wk.bl, fun l2 nl2 => ?_⟩
    have l2x : l2 ≠ x := fun e => by
      rw [e, upd_same] at nl2
      cases nl2
    rw [upd_ne l2x] at nl2
    have l2l : l2 ≠ l := fun e => by
      rw [e, upd_same] at nl2
      cases nl2
    rw [upd_ne l2l, upd_ne l2x, upd_ne l2x, upd_ne l2x, upd_ne l2x] at nl2
    refine ⟨_, rfl, x, _, dx, _, rfl, (upd_ne l2x.symm).trans upd_same, cl_PhoneCall T, na_PhoneCall_words_heard T, Wk.bl, ?_⟩
    refine k _ l l2 (fun b o nb e => ?_) nl nl2 l2l.symm ?_ ?_ ?_
    · rw [upd_ne nb, upd_ne (ne_of_none e nl2), upd_ne nb, upd_ne (ne_of_none e nl), upd_ne nb, upd_ne nb, upd_ne nb, upd_ne nb]
      exact e
    · rw [upd_ne lx, upd_ne l2l.symm, upd_ne lx, upd_same]
    · rw [upd_ne l2x, upd_same]
    · rw [upd_same, iPhoneCall]
      rfl
end
end Wk
end
section
set_option Elab.async false
set_option linter.all false
set_option maxRecDepth 100000
/-! The walk: the home is made. -/
namespace Wk
open PySem L2 He Mth Fl Wl Tx PyProof.Rows
def updR (ob : Ro → Option HO) (r : Ro) (o : HO) : Ro → Option HO := fun q => if q = r then some o else ob q
def updA (ad : Ro → Addr) (r : Ro) (p : Addr) : Ro → Addr := fun q => if q = r then p else ad q
theorem updR_ne {ob : Ro → Option HO} {r q : Ro} {o : HO} (h : q ≠ r) : updR ob r o q = ob q := if_neg h
theorem updR_eq {ob : Ro → Option HO} {r : Ro} {o : HO} : updR ob r o r = some o := if_pos rfl
theorem updA_ne {ad : Ro → Addr} {r q : Ro} {p : Addr} (h : q ≠ r) : updA ad r p q = ad q := if_neg h
theorem updA_eq {ad : Ro → Addr} {r : Ro} {p : Addr} : updA ad r p r = p := if_pos rfl
theorem updR_of {ob : Ro → Option HO} {r : Ro} {o1 : HO} : ∀ q o, updR ob r o1 q = some o → (q = r ∧ o = o1) ∨ (q ≠ r ∧ ob q = some o) := fun q o k => by
  by_cases z : q = r
  · rw [z, updR_eq] at k
    exact .inl ⟨z, (Option.some.inj k).symm⟩
  · rw [updR_ne z] at k
    exact .inr ⟨z, k⟩
section
variable {ob ob' : Ro → Option HO} {ad ad' : Ro → Addr} {B H H' : Hp}
theorem Tg.put1 (h : Tg ob ad B H) {r : Ro} {u : HO} (o1 : HO) (e : ob r = some u) : Tg (updR ob r o1) ad B (upd H (ad r) o1) := h.put e updR_of
theorem Tg.new1 (h : Tg ob ad B H) {p : Addr} (r : Ro) {o1 : HO} (fr : FrT ob ad B p) (s : Same H H') (hp : H' p = some o1) : Tg (updR ob r o1) (updA ad r p) B H' := h.new fr s hp updA_eq (fun q z => updA_ne z) updR_of
theorem FrT.new1 {p q : Addr} (f : FrT ob ad B q) (r : Ro) (o1 : HO) (ne : p ≠ q) : FrT (updR ob r o1) (updA ad r p) B q := f.new ne updA_eq (fun q z => updA_ne z) fun q o k => (updR_of q o k).imp And.left id
theorem FrT.put1 {q : Addr} (f : FrT ob ad B q) {r : Ro} {u : HO} (o1 : HO) (e : ob r = some u) : FrT (updR ob r o1) ad B q := f.put e fun q o k => (updR_of q o k).imp And.left id
end
/-- what the home knows of a person -/
structure Pn where
  d : Str
  z : Str
  ar : V
  kvs : List (Key × V)
  dx : Addr
def hob (K : PySem.W.Frag) (k : Nat) (ad : Ro → Addr) (pn : Nat → Pn) : Ro → Option HO
  | .rows => some (.lst (rng k fun i => .ref (ad (.ph i))))
  | .ph i => if i < k then some (.ins (ga K "Person") (pn i).dx (FPerson (.str (pn i).d) (.str (pn i).z) (pn i).ar (.ref (ad (.sd i))))) else none
  | .sd i => if i < k then some (.dK (pn i).kvs) else none
  | _ => none
structure PnOk (N : Nat) (q : Pn) : Prop where
  ar : q.ar = .non ∨ ∃ i, q.ar = .int i
  num : ∀ k v, valV q.kvs k = some v → NumV v
  len : q.kvs.length ≤ N
structure HomeW (K : PySem.W.Frag) (B : Hp) (hm : Addr) (k N : Nat) (ad : Ro → Addr) (pn : Nat → Pn) (H : Hp) : Prop where
  tg : Tg (hob K k ad pn) ad B H
  hm : ∃ dx, B hm = some (.ins (ga K "Home") dx (FHome (.ref (ad .rows))))
  ok : ∀ i, i < k → PnOk N (pn i)
theorem PnOk.mono {N N' : Nat} {q : Pn} (h : PnOk N q) (k : N ≤ N') : PnOk N' q := ⟨h.ar, h.num, Nat.le_trans h.len k⟩
theorem pair_range {α β : Type} {R : α → β → Prop} {f : Nat → α} {g : Nat → β} : ∀ {l : List Nat}, (∀ i ∈ l, R (f i) (g i)) → Paired R (l.map f) (l.map g)
  | [], _ => .nil
  | a :: l, h => .cons (h a List.mem_cons_self) (pair_range fun i hi => h i (List.mem_cons_of_mem _ hi))
theorem rng_app (n : Nat) (f : Nat → V) : rng (n + 1) f = rng n f ++ [f n] := by
  unfold rng
  rw [List.range_succ, List.map_append]
  rfl
theorem rng_refs {k : Nat} {f : Nat → Addr} : rng k (fun i => V.ref (f i)) = ((List.range k).map f).map V.ref := by
  unfold rng
  rw [List.map_map]
  rfl
section
variable {P : Program} {w : World} {K : PySem.W.Frag} {mg : Str → Option Value} {base : Heap} {F : Fx}
variable {B H H' : Hp} {hm : Addr} {k N : Nat} {ad : Ro → Addr} {pn : Nat → Pn}
theorem HomeW.grow (h : HomeW K B hm k N ad pn H) (s : Same H H') : HomeW K B hm k N ad pn H' := { h with tg := h.tg.grow s }
theorem HomeW.mono {N' : Nat} (h : HomeW K B hm k N ad pn H) (l : N ≤ N') : HomeW K B hm k N' ad pn H := { h with ok := fun i hi => (h.ok i hi).mono l }
theorem HomeW.imm (h : HomeW K B hm k N ad pn H) {p : Addr} (np : H p = none) (o : HO) : HomeW K (upd B p o) hm k N ad pn (upd H p o) ∧ Same B (upd B p o) := by
  obtain ⟨t, s⟩ := h.tg.imm np o
  obtain ⟨dx, e⟩ := h.hm
  exact ⟨⟨t, ⟨dx, s _ _ e⟩, h.ok⟩, s⟩
/-- an own object, changed in its place -/
theorem HomeW.own (h : HomeW K B hm k N ad pn H) {B0 : Hp} {l : Addr} {u : HO} (s0 : Same B0 B) (n0 : B0 l = none) (hl : B l = some u) (hn : ∀ c d f, u ≠ .ins c d f) (o : HO) : HomeW K (upd B l o) hm k N ad pn (upd H l o) ∧ Same B0 (upd B l o) := by
  have out : ∀ r x, hob K k ad pn r = some x → ad r ≠ l := fun r x e z => by
    have := h.tg.out r x e
    rw [z, hl] at this
    cases this
  obtain ⟨dx, eh⟩ := h.hm
  refine ⟨⟨⟨fun b x e => ?_, fun r x e => ?_, h.tg.inj, fun r x e => ?_⟩, ⟨dx, ?_⟩, h.ok⟩, fun b x e => ?_⟩
  · by_cases z : b = l
    · rw [z, upd_same] at e
      rw [z, upd_same]
      exact e
    · rw [upd_ne z] at e
      rw [upd_ne z]
      exact h.tg.same _ _ e
  · rw [upd_ne (out r x e)]
    exact h.tg.objs r x e
  · rw [upd_ne (out r x e)]
    exact h.tg.out r x e
  · rw [upd_ne fun z => hn _ _ _ (Option.some.inj ((z ▸ hl).symm.trans eh))]
    exact eh
  · rw [upd_ne (ne_of_none e n0)]
    exact s0 _ _ e
theorem HomeW.rows (h : HomeW K B hm k N ad pn H) : RowsAt K H hm ((List.range k).map fun i => ad (.ph i)) := by
  obtain ⟨dx, e⟩ := h.hm
  refine ⟨dx, _, h.tg.same _ _ e, ?_⟩
  rw [← rng_refs]
  exact h.tg.objs .rows _ rfl
theorem HomeW.pers (h : HomeW K B hm k N ad pn H) {i : Nat} (hi : i < k) : H (ad (.ph i)) = some (.ins (ga K "Person") (pn i).dx (FPerson (.str (pn i).d) (.str (pn i).z) (pn i).ar (.ref (ad (.sd i))))) := h.tg.objs (.ph i) _ (if_pos hi)
theorem HomeW.dict (h : HomeW K B hm k N ad pn H) {i : Nat} (hi : i < k) : H (ad (.sd i)) = some (.dK (pn i).kvs) := h.tg.objs (.sd i) _ (if_pos hi)
theorem HomeW.at_ (h : HomeW K B hm k N ad pn H) {i : Nat} (hi : i < k) : ((List.range k).map fun i => ad (.ph i))[i]? = some (ad (.ph i)) := by
  rw [List.getElem?_map, List.getElem?_range hi]
  rfl
/-- done: the home stands -/
theorem HomeW.done (h : HomeW K B hm k N ad pn H) : HomeAt K H hm k := by
  obtain ⟨dx, rl, h1, h2⟩ := h.rows
  refine ⟨dx, rl, _, h1, h2, by rw [List.length_map, List.length_range], fun p hp => ?_⟩
  obtain ⟨i, hi, rfl⟩ := List.mem_map.mp hp
  have hi := List.mem_range.mp hi
  have o := h.ok i hi
  exact ⟨_, _, _, _, _, _, h.pers hi, h.dict hi, o.num, o.ar⟩
theorem HomeW.texts (h : HomeW K B hm k N ad pn H) (num : Bool) : Paired (fun p z => ∃ d y ar nd, PersIs K H p d y ar nd ∧ (if num then y else d) = z) ((List.range k).map fun i => ad (.ph i)) ((List.range k).map fun i => if num then (pn i).z else (pn i).d) :=
  pair_range fun i hi => ⟨_, _, _, _, ⟨_, h.pers (List.mem_range.mp hi)⟩, rfl⟩
/-- a person more -/
def setP (pn : Nat → Pn) (i : Nat) (q : Pn) : Nat → Pn := fun j => if j = i then q else pn j
theorem setP_eq {i : Nat} {q : Pn} : setP pn i q i = q := if_pos rfl
theorem setP_ne {i j : Nat} {q : Pn} (h : j ≠ i) : setP pn i q j = pn j := if_neg h
theorem HomeW.add (h : HomeW K B hm k N ad pn H) {x l dx : Addr} {d z : Str} (s : Same H H') (fx : FrT (hob K k ad pn) ad B x) (fl : FrT (hob K k ad pn) ad B l) (ne : x ≠ l) (hx : H' x = some (.ins (ga K "Person") dx (FPerson (.str d) (.str z) .non (.ref l)))) (hl : H' l = some (.dK [])) :
    HomeW K B hm (k + 1) N (updA (updA ad (.ph k) x) (.sd k) l) (setP pn k ⟨d, z, .non, [], dx⟩) (upd H' (ad .rows) (.lst (rng k (fun i => .ref (ad (.ph i))) ++ [.ref x]))) := by
  have t1 := h.tg.new1 (.ph k) fx s hx
  have t2 := t1.new1 (.sd k) (fl.new1 (.ph k) _ ne) (Same.refl _) hl
  have t3 := t2.put1 (r := .rows) (.lst (rng k (fun i => .ref (ad (.ph i))) ++ [.ref x])) (u := .lst (rng k fun i => .ref (ad (.ph i)))) rfl
  refine ⟨?_, ?_, fun i hi => ?_⟩
  · refine Tg.congr (ob := updR (updR (updR (hob K k ad pn) _ _) _ _) _ _) (ad := updA (updA ad (.ph k) x) (.sd k) l) t3 fun r o e => ⟨?_, rfl⟩
    rw [← e]
    have nphk : ∀ i, i ≠ k → Ro.ph i ≠ Ro.ph k := fun i hi y => hi (by injection y)
    have nsdk : ∀ i, i ≠ k → Ro.sd i ≠ Ro.sd k := fun i hi y => hi (by injection y)
    have aph : ∀ i, i ≠ k → updA (updA ad (.ph k) x) (.sd k) l (.ph i) = ad (.ph i) := fun i hi => by rw [updA_ne (by intro y; cases y), updA_ne (nphk i hi)]
    have asd : ∀ i, i ≠ k → updA (updA ad (.ph k) x) (.sd k) l (.sd i) = ad (.sd i) := fun i hi => by rw [updA_ne (nsdk i hi), updA_ne (by intro y; cases y)]
    cases r with
    | rows =>
      rw [updR_eq]
      show _ = some (HO.lst (rng (k + 1) fun i => .ref (updA (updA ad (.ph k) x) (.sd k) l (.ph i))))
      rw [rng_app, updA_ne (by intro y; cases y), updA_eq]
      refine congrArg (fun q => some (HO.lst (q ++ [.ref x]))) (rng_congr fun i hi => ?_)
      rw [aph i (by omega)]
    | ph i =>
      rw [updR_ne (by intro y; cases y), updR_ne (by intro y; cases y)]
      by_cases zi : i = k
      · subst zi
        rw [updR_eq]
        show _ = if i < i + 1 then some (HO.ins _ (setP pn i _ i).dx (FPerson _ _ _ (.ref (updA (updA ad (.ph i) x) (.sd i) l (.sd i))))) else none
        rw [if_pos (Nat.lt_succ_self i), updA_eq, setP_eq]
      · rw [updR_ne (nphk i zi)]
        show (if i < k then _ else none) = if i < k + 1 then some (HO.ins _ (setP pn k _ i).dx (FPerson _ _ _ (.ref (updA (updA ad (.ph k) x) (.sd k) l (.sd i))))) else none
        rw [asd i zi, setP_ne zi]
        by_cases hi : i < k
        · rw [if_pos hi, if_pos (by omega)]
        · rw [if_neg hi, if_neg (by omega)]
    | sd i =>
      rw [updR_ne (by intro y; cases y)]
      by_cases zi : i = k
      · subst zi
        rw [updR_eq]
        show _ = if i < i + 1 then some (HO.dK (setP pn i _ i).kvs) else none
        rw [if_pos (Nat.lt_succ_self i), setP_eq]
      · rw [updR_ne (nsdk i zi), updR_ne (by intro y; cases y)]
        show (if i < k then _ else none) = if i < k + 1 then some (HO.dK (setP pn k _ i).kvs) else none
        rw [setP_ne zi]
        by_cases hi : i < k
        · rw [if_pos hi, if_pos (by omega)]
        · rw [if_neg hi, if_neg (by omega)]
    | _ => rfl
  · exact h.hm
  · by_cases zi : i = k
    · rw [zi, setP_eq]
      exact ⟨.inl rfl, fun k v e => (nomatch e), Nat.zero_le _⟩
    · rw [setP_ne zi]
      exact h.ok i (by omega)
theorem HomeW.setAr (h : HomeW K B hm k N ad pn H) {i : Nat} (hi : i < k) (v : Int) : HomeW K B hm k N ad (setP pn i { pn i with ar := .int v }) (upd H (ad (.ph i)) (.ins (ga K "Person") (pn i).dx (FPerson (.str (pn i).d) (.str (pn i).z) (.int v) (.ref (ad (.sd i)))))) := by
  refine ⟨h.tg.put (r := .ph i) (if_pos hi) fun q o e => ?_, h.hm, fun j hj => ?_⟩
  · cases q with
    | rows => exact .inr ⟨(by intro y; cases y), e⟩
    | ph j =>
      by_cases zj : j = i
      · subst zj
        have e : (if j < k then some (HO.ins _ (setP pn j _ j).dx (FPerson (.str (setP pn j _ j).d) (.str (setP pn j _ j).z) (setP pn j _ j).ar (.ref (ad (.sd j))))) else none) = some o := e
        rw [if_pos hi, setP_eq] at e
        exact .inl ⟨rfl, (Option.some.inj e).symm⟩
      · have e : (if j < k then some (HO.ins _ (setP pn i _ j).dx (FPerson (.str (setP pn i _ j).d) (.str (setP pn i _ j).z) (setP pn i _ j).ar (.ref (ad (.sd j))))) else none) = some o := e
        rw [setP_ne zj] at e
        exact .inr ⟨fun y => zj (by injection y), e⟩
    | sd j =>
      refine .inr ⟨(by intro y; cases y), ?_⟩
      have e : (if j < k then some (HO.dK (setP pn i _ j).kvs) else none) = some o := e
      rw [← e]
      by_cases zj : j = i
      · rw [zj, setP_eq]
        rfl
      · rw [setP_ne zj]
        rfl
    | _ => cases e
  · by_cases zj : j = i
    · rw [zj, setP_eq]
      have o := h.ok i hi
      exact ⟨.inr ⟨v, rfl⟩, o.num, o.len⟩
    · rw [setP_ne zj]
      exact h.ok j hj
theorem HomeW.setFw (h : HomeW K B hm k N ad pn H) {i : Nat} (hi : i < k) (x : Str) {v : V} (hv : NumV v) : HomeW K B hm k (N + 1) ad (setP pn i { pn i with kvs := putK (pn i).kvs (.inr x) v }) (upd H (ad (.sd i)) (.dK (putK (pn i).kvs (.inr x) v))) := by
  refine ⟨h.tg.put (r := .sd i) (if_pos hi) fun q o e => ?_, h.hm, fun j hj => ?_⟩
  · cases q with
    | rows => exact .inr ⟨(by intro y; cases y), e⟩
    | sd j =>
      by_cases zj : j = i
      · subst zj
        have e : (if j < k then some (HO.dK (setP pn j _ j).kvs) else none) = some o := e
        rw [if_pos hi, setP_eq] at e
        exact .inl ⟨rfl, (Option.some.inj e).symm⟩
      · have e : (if j < k then some (HO.dK (setP pn i _ j).kvs) else none) = some o := e
        rw [setP_ne zj] at e
        exact .inr ⟨fun y => zj (by injection y), e⟩
    | ph j =>
      refine .inr ⟨(by intro y; cases y), ?_⟩
      have e : (if j < k then some (HO.ins _ (setP pn i _ j).dx (FPerson (.str (setP pn i _ j).d) (.str (setP pn i _ j).z) (setP pn i _ j).ar (.ref (ad (.sd j))))) else none) = some o := e
      rw [← e]
      by_cases zj : j = i
      · rw [zj, setP_eq]
        rfl
      · rw [setP_ne zj]
        rfl
    | _ => cases e
  · by_cases zj : j = i
    · rw [zj, setP_eq]
      have o := h.ok i hi
      refine ⟨o.ar, fun k y e => ?_, Nat.le_trans (length_putK _ _ _) (Nat.succ_le_succ o.len)⟩
      have e : valV (putK (pn i).kvs (.inr x) v) k = some y := e
      rw [valV_put] at e
      by_cases zk : k = .inr x
      · rw [if_pos zk] at e
        rw [← Option.some.inj e]
        exact hv
      · rw [if_neg zk] at e
        exact o.num k y e
    · rw [setP_ne zj]
      exact (h.ok j hj).mono (Nat.le_succ N)
end
end Wk
end
section
set_option Elab.async false
set_option linter.all false
set_option maxRecDepth 100000
/-! The walk: the home's methods that change it. -/
namespace Wk
open PySem L2 He Mth Fl Wl Tx PyProof.Rows
section
variable {P : Program} {w : World} {K : PySem.W.Frag} {mg : Str → Option Value} {base : Heap} {F : Fx}
def spHadd (K : PySem.W.Frag) : Sp := fun vs H Q _ => ∃ (B : Hp) (hm : Addr) (k N : Nat) (ad : Ro → Addr) (pn : Nat → Pn) (d z : Str), vs = [.ref hm, .str d, .str z] ∧ HomeW K B hm k N ad pn H ∧ k ≤ 1000 ∧ (∀ i, i < k → (pn i).d ≠ d ∧ (pn i).z ≠ z) ∧
  ∀ H' ad' pn' v, (∀ i, i < k → (pn' i).d = (pn i).d ∧ (pn' i).z = (pn i).z) → (pn' k).d = d → (pn' k).z = z → HomeW K B hm (k + 1) N ad' pn' H' → Q v H'
theorem ok_Home_add (T : Txt K mg) : Has P w K mg base CX0 3 (ma K (ga K "Home") "add") ["self", "digits", "number"] (spHadd K) := by
  obtain ⟨fd, Fn⟩ := fd_Home_add T
  obtain ⟨_, G_Home_with_digits, b_Home_with_digits, k_Home_with_digits⟩ := ok_Home_with_digits (P := P) (w := w) (base := base) T
  obtain ⟨_, G_Home_with_number, b_Home_with_number, k_Home_with_number⟩ := ok_Home_with_number (P := P) (w := w) (base := base) T
  obtain ⟨_, G_Person_init, b_Person_init, k_Person_init⟩ := ok_Person_init (P := P) (w := w) (base := base) T
  refine ⟨fd, Fn.ok sc_Home_add (fun vs H Q E h => ?_) (fun cdv A outer s H vs Q E hr h => ?_), bi_Home_add Fn, Fn.kp⟩
  · obtain ⟨B, hm, k, N, ad, pn, d, z, rfl, _⟩ := h
    rfl
  · obtain ⟨B, hm, k, N, ad, pn, d, z, rfl, W, hk, hne, go⟩ := h
    refine ⟨_, PSs.nox (pss_cons (ps_if (pt_cmpR op_notN (pe_meth (pv 0) (cl_Home T) (me_Home_with_digits T) G_Home_with_digits (hr.mono (by decide)) b_Home_with_digits .nil pass0 (pa_cons (pv 1) pa_nil)) pe_non (nomark _))
      (pss_one (ps_never))
      pss_nil)
    (pss_cons (ps_if (pt_cmpR op_notN (pe_meth (pv 0) (cl_Home T) (me_Home_with_number T) G_Home_with_number (hr.mono (by decide)) b_Home_with_number .nil pass0 (pa_cons (pv 2) pa_nil)) pe_non (nomark _))
      (pss_one (ps_never))
      pss_nil)
    (pss_cons (ps_expr (pe_bm PySem.F.plainAttrs_list PySem.F.slot_list_append PySem.F.type_list_append mt_append (pe_fld (pv 0) rfl) (pa_cons (pe_make (mk_Person T) G_Person_init (hr.mono (by decide)) rfl (mg_Person T) b_Person_init .nil pass0 (pa_cons (pv 1) (pa_cons (pv 2) pa_nil))) pa_nil)))
    (pss_one (ps_ret (pe_op op_sub (pe_callB call_len_seq (by rfl) (fr_len T) PySem.boot_len (pa_cons (pe_fld (pv 0) rfl) pa_nil)) pe_int)))))), ?_⟩
    obtain ⟨dx, r0⟩ := W.hm
    have r1 := W.tg.same _ _ r0
    have no : ∀ {num : Bool} {x : Str}, (if num then z else d) = x → ∀ y ∈ ((List.range k).map fun i => if num then (pn i).z else (pn i).d), ¬ V.str y ≠ V.str x → False := fun {num x} ex y hy q => q fun e => by
      obtain ⟨i, hi, rfl⟩ := List.mem_map.mp hy
      have e := str_inj e
      have := hne i (List.mem_range.mp hi)
      subst ex
      cases num
      · exact this.1 e
      · exact this.2 e
    refine ⟨_, rfl, hm, _, _, rfl, r1, mHome_with_digits, _, rfl, hm, _, _, .str d, rfl, W.rows, W.texts false, .inr ⟨d, rfl⟩, fun H1 _ s1 => ?_, fun i y H1 hi ey s1 => ?_⟩
    rotate_left
    · exact (no (num := false) rfl y (List.mem_of_getElem? hi) fun q => q ey).elim
    refine ⟨rfl, _, rfl, nF rfl ?_⟩
    have W1 := W.grow s1
    refine ⟨_, rfl, hm, _, _, rfl, s1 _ _ r1, mHome_with_number, _, rfl, hm, _, _, .str z, rfl, W1.rows, W1.texts true, .inr ⟨z, rfl⟩, fun H2 _ s2 => ?_, fun i y H2 hi ey s2 => ?_⟩
    rotate_left
    · exact (no (num := true) rfl y (List.mem_of_getElem? hi) fun q => q ey).elim
    refine ⟨rfl, _, rfl, nF rfl ?_⟩
    have W2 := W1.grow s2
    have r1' := s2 _ _ (s1 _ _ r1)
    have hrows : H2 (ad .rows) = some (.lst (rng k fun i => .ref (ad (.ph i)))) := W2.tg.objs .rows _ rfl
    refine ⟨_, rfl, hm, _, _, _, _, rfl, r1', cl_Home T, na_Home_rows T, gHome_rows, .inl ⟨rfl, _, SqL.of hrows⟩, _, rfl, _, rfl, fun x px nx npx nxp => ?_⟩
    refine ⟨x, px, .str d, .str z, rfl, upd_same, fun H5 l off nl hl hx => ⟨rfl, ?_⟩⟩
    have lx : l ≠ x := fun e => by
      rw [e, upd_same] at nl
      cases nl
    rw [upd_ne lx] at nl
    have lpx : l ≠ px := fun e => by
      rw [e, upd_same] at nl
      cases nl
    rw [upd_ne lpx] at nl
    have s5 : Same H2 H5 := fun b o e => by
      have n1 := ne_of_none e nx
      exact off b o n1 ((upd_ne n1).trans ((upd_ne (ne_of_none e npx)).trans e))
    have W6 := W2.add s5 (W2.tg.fr nx) (W2.tg.fr nl) lx.symm hx hl
    refine ⟨ad .rows, _, _, rfl, rfl, s5 _ _ hrows, ?_, ?_⟩
    · rw [rng_len]
      exact small1 (N := 1000) hk Wk.bl
    refine ⟨_, rfl, hm, _, _, _, _, rfl, W6.tg.same _ _ r0, cl_Home T, na_Home_rows T, gHome_rows, _, _, rfl, .inl (SqL.of upd_same), _, _, rfl, rfl, ?_⟩
    refine go _ _ _ _ (fun i hi => ?_) ?_ ?_ W6
    · rw [setP_ne (by omega)]
      exact ⟨rfl, rfl⟩
    · rw [setP_eq]
    · rw [setP_eq]
def spHarea (K : PySem.W.Frag) : Sp := fun vs H Q _ => ∃ (B : Hp) (hm : Addr) (k N : Nat) (ad : Ro → Addr) (pn : Nat → Pn) (i : Nat) (v : Int), vs = [.ref hm, natV i, .int v] ∧ HomeW K B hm k N ad pn H ∧ i < k ∧
  ∀ H' pn', (∀ j, (pn' j).d = (pn j).d ∧ (pn' j).z = (pn j).z) → HomeW K B hm k N ad pn' H' → Q .non H'
theorem ok_Home_set_area (T : Txt K mg) : Has P w K mg base CX0 2 (ma K (ga K "Home") "set_area") ["self", "person", "area"] (spHarea K) := by
  obtain ⟨fd, Fn⟩ := fd_Home_set_area T
  obtain ⟨_, G_Home_find, b_Home_find, k_Home_find⟩ := ok_Home_find (P := P) (w := w) (base := base) T
  refine ⟨fd, Fn.ok sc_Home_set_area (fun vs H Q E h => ?_) (fun cdv A outer s H vs Q E hr h => ?_), bi_Home_set_area Fn, Fn.kp⟩
  · obtain ⟨B, hm, k, N, ad, pn, i, v, rfl, _⟩ := h
    rfl
  · obtain ⟨B, hm, k, N, ad, pn, i, v, rfl, W, hi, go⟩ := h
    refine ⟨_, PSs.nox (pss_cons (ps_set (i := 3) sc_Home_set_area.nd rfl (Or.inl rfl) (pe_meth (pv 0) (cl_Home T) (me_Home_find T) G_Home_find (hr.mono (by decide)) b_Home_find .nil pass0 (pa_cons (pv 1) pa_nil)))
    (pss_one (ps_fld (pv 3) (pv 2) rfl))), ?_⟩
    obtain ⟨dx, r0⟩ := W.hm
    refine ⟨_, rfl, hm, _, _, rfl, W.tg.same _ _ r0, mHome_find, _, rfl, hm, i, _, _, rfl, W.rows, W.at_ hi, ?_⟩
    refine ⟨_, rfl, _, rfl, ad (.ph i), _, _, _, rfl, W.pers hi, cl_Person T, na_Person_area T, Wk.bl, ?_⟩
    have W2 := W.setAr hi v
    refine go _ _ (fun j => ?_) W2
    by_cases z : j = i
    · rw [z, setP_eq]
      exact ⟨rfl, rfl⟩
    · rw [setP_ne z]
      exact ⟨rfl, rfl⟩
def spHsetf (K : PySem.W.Frag) : Sp := fun vs H Q _ => ∃ (B : Hp) (hm : Addr) (k N : Nat) (ad : Ro → Addr) (pn : Nat → Pn) (i : Nat) (x : Str) (v : V), vs = [.ref hm, natV i, .str x, v] ∧ HomeW K B hm k N ad pn H ∧ i < k ∧ N ≤ 1000 ∧ NumV v ∧
  ∀ H' pn' u, (∀ j, (pn' j).d = (pn j).d ∧ (pn' j).z = (pn j).z) → HomeW K B hm k (N + 1) ad pn' H' → Q u H'
theorem ok_Home_set_forward (T : Txt K mg) : Has P w K mg base CX0 2 (ma K (ga K "Home") "set_forward") ["self", "person", "kind", "number"] (spHsetf K) := by
  obtain ⟨fd, Fn⟩ := fd_Home_set_forward T
  obtain ⟨_, G_Home_find, b_Home_find, k_Home_find⟩ := ok_Home_find (P := P) (w := w) (base := base) T
  refine ⟨fd, Fn.ok sc_Home_set_forward (fun vs H Q E h => ?_) (fun cdv A outer s H vs Q E hr h => ?_), bi_Home_set_forward Fn, Fn.kp⟩
  · obtain ⟨B, hm, k, N, ad, pn, i, x, v, rfl, _⟩ := h
    rfl
  · obtain ⟨B, hm, k, N, ad, pn, i, x, v, rfl, W, hi, hN, hv, go⟩ := h
    refine ⟨_, PSs.nox (pss_cons (ps_set (i := 4) sc_Home_set_forward.nd rfl (Or.inl rfl) (pe_meth (pv 0) (cl_Home T) (me_Home_find T) G_Home_find (hr.mono (by decide)) b_Home_find .nil pass0 (pa_cons (pv 1) pa_nil)))
    (pss_cons (ps_set (i := 5) sc_Home_set_forward.nd rfl (Or.inl rfl) (pe_dget1 (hu_of hr) (pe_fld (pv 4) rfl) (pv 2) ⟨rfl, rfl, rfl, rfl⟩))
    (pss_cons (ps_dput (hu_of hr) (pe_fld (pv 4) rfl) (pv 2) (pv 3) rfl)
    (pss_one (ps_ret (pv 5)))))), ?_⟩
    obtain ⟨dx, r0⟩ := W.hm
    refine ⟨_, rfl, hm, _, _, rfl, W.tg.same _ _ r0, mHome_find, _, rfl, hm, i, _, _, rfl, W.rows, W.at_ hi, ?_⟩
    have hd := W.dict hi
    have hl : (pn i).kvs.length < sizeLine := small1 (N := 1000) (Nat.le_trans (W.ok i hi).len hN) Wk.bl
    refine ⟨_, rfl, ad (.ph i), _, _, _, _, rfl, W.pers hi, cl_Person T, na_Person_numbers T, gPerson_numbers, ad (.sd i), rfl, ?_⟩
    refine ⟨.inl ⟨_, .inl hd⟩, _, rfl, _, DGet.k (k := Sum.inr x) hd, ?_⟩
    refine ⟨_, rfl, _, rfl, ad (.ph i), _, _, _, _, rfl, W.pers hi, cl_Person T, na_Person_numbers T, gPerson_numbers, _, rfl, ad (.sd i), _, rfl, DPut.k (k := Sum.inr x) hd hl, _, rfl, ?_⟩
    refine go _ _ _ (fun j => ?_) (W.setFw hi x hv)
    by_cases z : j = i
    · rw [z, setP_eq]
      exact ⟨rfl, rfl⟩
    · rw [setP_ne z]
      exact ⟨rfl, rfl⟩
end
end Wk
end
section
set_option Elab.async false
set_option linter.all false
set_option maxRecDepth 100000
/-! The walk: the law's home. -/
namespace Wk
open PySem L2 He Mth Fl Wl Tx PyProof.Rows
/-- a text that ends in a digit -/
def LastK (k : Nat) (z : Str) : Prop := z.cps.toList.getLast? = some (Nat.digitChar k).toNat
theorem lastK_inj {i j : Nat} (hi : i < 5) (hj : j < 5) {z : Str} (h1 : LastK i z) (h2 : LastK j z) : i = j := by
  unfold LastK at h1 h2
  rw [h1] at h2
  have e := Option.some.inj h2
  have : ∀ i j : Fin 5, (Nat.digitChar i.val).toNat = (Nat.digitChar j.val).toNat → i = j := by decide +kernel
  have := this ⟨i, hi⟩ ⟨j, hj⟩ e
  exact congrArg Fin.val this
section
variable {P : Program} {w : World} {K : PySem.W.Frag} {mg : Str → Option Value} {base : Heap} {F : Fx}
theorem HomeW.freeze {B H : Hp} {hm : Addr} {k N : Nat} {ad : Ro → Addr} {pn : Nat → Pn} (h : HomeW K B hm k N ad pn H) {p : Addr} {o : HO} (fr : FrT (hob K k ad pn) ad B p) (e : H p = some o) : HomeW K (upd B p o) hm k N ad pn H ∧ Same B (upd B p o) := by
  obtain ⟨dx, eh⟩ := h.hm
  have s := same_upd (o := o) fr.1
  refine ⟨⟨⟨fun b x k => ?_, h.tg.objs, h.tg.inj, fun r x k => ?_⟩, ⟨dx, s _ _ eh⟩, h.ok⟩, s⟩
  · by_cases z : b = p
    · rw [z, upd_same] at k
      rw [z, ← k]
      exact e
    · rw [upd_ne z] at k
      exact h.tg.same _ _ k
  · rw [upd_ne (fr.2 r x k)]
    exact h.tg.out r x k
/-- the first home -/
theorem home0 {H : Hp} {hm dx l : Addr} (h1 : H hm = some (.ins (ga K "Home") dx (FHome (.ref l)))) (h2 : H l = some (.lst [])) : HomeW K (fun b => if b = l then none else H b) hm 0 0 (fun _ => l) (fun _ => ⟨"", "", .non, [], 0⟩) H := by
  have ne : hm ≠ l := ne_of h1 h2 fun z => by cases z
  have live : ∀ r o, hob K 0 (fun _ => l) (fun _ => ⟨"", "", .non, [], 0⟩) r = some o → r = .rows ∧ o = .lst [] := fun r o e => by
    cases r with
    | rows => exact ⟨rfl, (Option.some.inj e).symm⟩
    | ph i =>
      simp [hob] at e
    | sd i =>
      simp [hob] at e
    | _ => cases e
  refine ⟨⟨fun b o e => ?_, fun r o e => ?_, fun r r' o o' e e' _ => ?_, fun r o e => if_pos rfl⟩, ⟨dx, ?_⟩, fun i hi => absurd hi (Nat.not_lt_zero i)⟩
  · by_cases z : b = l
    · rw [if_pos z] at e
      cases e
    · rw [if_neg z] at e
      exact e
  · rw [(live r o e).2]
    exact h2
  · rw [(live r o e).1, (live r' o' e').1]
  · show (if hm = l then none else H hm) = _
    rw [if_neg ne]
    exact h1
def spLhome (K : PySem.W.Frag) : Sp := fun vs H Q _ => ∃ (l : Addr) (ns : List Int) (n : Nat), vs = [.ref l, natV n] ∧ SqL K H l (ns.map V.int) ∧ n ≤ 5 ∧
  ∀ H' t hm l1 l2 zs, Same H H' → H' t = some (.tup [.ref hm, .ref l1, .ref l2]) → HomeAt K H' hm n → H' l1 = some (.lst ((zs : List Str).map V.str)) → zs.length = n → Q (.ref t) H'
theorem ok_law_home (T : Txt K mg) : Has P w K mg base CX0 4 (ga K "_law_home") ["_law_script", "_law_people"] (spLhome K) := by
  obtain ⟨fd, Fn⟩ := fd_law_home T
  obtain ⟨_, G_Home_init, b_Home_init, k_Home_init⟩ := ok_Home_init (P := P) (w := w) (base := base) T
  obtain ⟨_, G_law_number, b_law_number, k_law_number⟩ := ok_law_number (P := P) (w := w) (base := base) T
  obtain ⟨_, G_Home_add, b_Home_add, k_Home_add⟩ := ok_Home_add (P := P) (w := w) (base := base) T
  obtain ⟨_, G_law_cell, b_law_cell, k_law_cell⟩ := ok_law_cell (P := P) (w := w) (base := base) T
  obtain ⟨_, G_law_pick, b_law_pick, k_law_pick⟩ := ok_law_pick (P := P) (w := w) (base := base) T
  obtain ⟨_, G_Home_set_forward, b_Home_set_forward, k_Home_set_forward⟩ := ok_Home_set_forward (P := P) (w := w) (base := base) T
  obtain ⟨_, G_Home_set_area, b_Home_set_area, k_Home_set_area⟩ := ok_Home_set_area (P := P) (w := w) (base := base) T
  refine ⟨fd, Fn.ok sc_law_home (fun vs H Q E h => ?_) (fun cdv A outer s H vs Q E hr h => ?_), bi_law_home Fn, Fn.kp⟩
  · obtain ⟨l, ns, n, rfl, _⟩ := h
    rfl
  · obtain ⟨l, ns, n, rfl, hl, hn, go⟩ := h
    refine ⟨_, PSs.nox (pss_cons (ps_set (i := 2) sc_law_home.nd rfl (Or.inl rfl) (pe_make0 (mk_Home T) G_Home_init (hr.mono (by decide)) rfl (mg_Home T) b_Home_init .nil pass0))
    (pss_cons (ps_setLc (i := 4) (own := [("_law_k", 3)]) (g := gName 3) (tt := tYes) (te := (tCall (spNum K) [] E0 (tCons (tVar 0) (tCons (tVar 3) tNil)))) rfl sc_law_home.nd rfl rfl (sw_true rfl rfl rfl (by decide +kernel)) (pi_range1 rfl (fr_range T) (pa_cons (pv 1) pa_nil)) (blkOk_by (own := [("_law_k", 3)]) (N := n_law_home) (sc := defScope s_law_home) (by decide +kernel)) (fun _ _ _ _ _ => pg_name (i := 3) sc_law_home.nd rfl (Or.inl rfl)) (fun _ _ _ _ _ => pts_nil) (fun _ _ _ _ _ => (pe_call G_law_number (hr.mono (by decide)) rfl (mg_law_number T) k_law_number b_law_number .nil pass0 (pa_cons (pv 0) (pa_cons (pv 3) pa_nil)))))
    (pss_cons (ps_set (i := 5) sc_law_home.nd rfl (Or.inl rfl) (pe_lst pa_nil))
    (pss_cons (ps_for PassesOwn.never rfl (pi_range1 rfl (fr_range T) (pa_cons (pv 1) pa_nil)) (pg_name (i := 3) sc_law_home.nd rfl (Or.inl rfl))
      (pss_cons (ps_expr (pe_meth (pv 2) (cl_Home T) (me_Home_add T) G_Home_add (hr.mono (by decide)) b_Home_add .nil pass0 (pa_cons (pe_callTy call_str_int (by rfl) (fr_str T) (by decide +kernel) (pa_cons (pe_op op_add pe_int (pv 3)) pa_nil)) (pa_cons (pe_ix ix_list (pv 4) (pv 3) (fun _ _ => rfl)) pa_nil))))
      (pss_cons (ps_set (i := 6) sc_law_home.nd rfl (Or.inl rfl) (pe_call G_law_cell (hr.mono (by decide)) rfl (mg_law_cell T) k_law_cell b_law_cell .nil pass0 (pa_cons (pv 0) (pa_cons (pe_op op_add (pe_op op_mul pe_int (pv 3)) pe_int) pa_nil))))
      (pss_cons (ps_set (i := 7) sc_law_home.nd rfl (Or.inl rfl) pe_dnewK)
      (pss_cons (ps_for PassesOwn.never rfl (pi_list (pe_lst (pa_cons pe_str (pa_cons pe_str (pa_cons pe_str (pa_cons pe_str pa_nil)))))) (pg_name (i := 8) sc_law_home.nd rfl (Or.inl rfl))
        (pss_cons (ps_dput (hu_of hr) (pv 7) (pv 8) (pe_call G_law_pick (hr.mono (by decide)) rfl (mg_law_pick T) k_law_pick b_law_pick .nil pass0 (pa_cons (pv 4) (pa_cons (pe_op op_mod (pv 6) (pe_op op_add (pv 1) pe_int)) pa_nil))) rfl)
        (pss_cons (ps_if (PW.pt (pw_and (pt_cmpR op_eq (pv 8) pe_str (nomark _)) (pw_and1 (pt_cmpR op_gt (pe_op op_mod (pv 6) pe_int) pe_int (nomark _)))))
          (pss_one (ps_dput (hu_of hr) (pv 7) (pv 8) pe_non rfl))
          pss_nil)
        (pss_cons (ps_expr (pe_meth (pv 2) (cl_Home T) (me_Home_set_forward T) G_Home_set_forward (hr.mono (by decide)) b_Home_set_forward .nil pass0 (pa_cons (pv 3) (pa_cons (pv 8) (pa_cons (pe_dget (hu_of hr) (pv 7) (pv 8) (fun _ _ => rfl)) pa_nil)))))
        (pss_one (ps_set (i := 6) sc_law_home.nd rfl (Or.inl rfl) (pe_op op_fdiv (pv 6) (pe_op op_add (pv 1) pe_int))))))))
      (pss_cons (ps_dput (hu_of hr) (pv 7) pe_str (pe_op op_mod (pv 6) pe_int) rfl)
      (pss_cons (ps_if (pt_cmpR op_eq (pe_op op_mod (pv 6) pe_int) pe_int (nomark _))
        (pss_one (ps_dput (hu_of hr) (pv 7) pe_str pe_non rfl))
        pss_nil)
      (pss_cons (ps_if (pt_cmpR op_notN (pe_dget (hu_of hr) (pv 7) pe_str (fun _ _ => rfl)) pe_non (nomark _))
        (pss_one (ps_expr (pe_meth (pv 2) (cl_Home T) (me_Home_set_area T) G_Home_set_area (hr.mono (by decide)) b_Home_set_area .nil pass0 (pa_cons (pv 3) (pa_cons (pe_dget (hu_of hr) (pv 7) pe_str (fun _ _ => rfl)) pa_nil)))))
        pss_nil)
      (pss_one (ps_expr (pe_bm PySem.F.plainAttrs_list PySem.F.slot_list_append PySem.F.type_list_append mt_append (pv 5) (pa_cons (pv 7) pa_nil))))))))))))
    (pss_one (ps_ret (pe_tup (pa_cons (pv 2) (pa_cons (pv 4) (pa_cons (pv 5) pa_nil)))))))))), ?_⟩
    refine fun hm dx nx ndx nxd => ⟨hm, dx, rfl, upd_same, fun H1 rl off nrl hrl hhm => ⟨rfl, ?_⟩⟩
    have W1 := home0 hhm hrl
    have rlx : rl ≠ hm := fun e => by
      rw [e, upd_same] at nrl
      cases nrl
    rw [upd_ne rlx] at nrl
    have rld : rl ≠ dx := fun e => by
      rw [e, upd_same] at nrl
      cases nrl
    rw [upd_ne rld] at nrl
    have s1 : Same H (fun b => if b = rl then none else H1 b) := fun b o e => by
      have n1 := ne_of_none e nx
      show (if b = rl then none else H1 b) = _
      rw [if_neg (ne_of_none e nrl)]
      exact off b o n1 ((upd_ne n1).trans ((upd_ne (ne_of_none e ndx)).trans e))
    generalize (fun b => if b = rl then none else H1 b) = B1 at W1 s1
    have hlB := s1.seq hl
    clear off nrl rlx rld nxd ndx nx hrl hhm
    -- the numbers
    refine ⟨_, rfl, (n : Int), rfl, by omega, by omega, fun D nD => ?_⟩
    have s2 : Same H1 (upd H1 D (.lst [])) := same_upd nD
    refine lc_range (lo := 0) (n := ((n : Int)).toNat) (fun i H' => Same H1 H' ∧ ∃ zs : List Str, zs.length = i ∧ (∀ j z, zs[j]? = some z → LastK (j + 1) z) ∧ H' D = some (.lst (zs.map V.str))) ⟨s2, [], rfl, fun j z e => by simp at e, upd_same⟩ ?_ ?_
    · rintro i H2 hi ⟨s3, zs, hz, hk, h2⟩
      have e0 : (V.int (0 + (i : Int))) = natV i := by
        show V.int _ = V.int _
        rw [Int.zero_add]
      rw [e0]
      refine ⟨rfl, ?_⟩
      refine ⟨_, rfl, _, rfl, l, ns, i, rfl, (W1.tg.same.trans s3).seq hlB, by omega, fun z hz2 => ?_⟩
      refine ⟨_, h2, ?_, ?_, zs ++ [z], ?_, ?_, ?_⟩
      · rw [List.length_map]
        exact small1 (N := 5) (by omega) Wk.bl
      · intro b o e
        rw [upd_ne (ne_of_none e nD)]
        exact s3 _ _ e
      · rw [List.length_append, hz]
        rfl
      · intro j y e
        rw [List.getElem?_append] at e
        by_cases hj : j < zs.length
        · rw [if_pos hj] at e
          exact hk j y e
        · rw [if_neg hj] at e
          have ej : j - zs.length = 0 := by
            cases ez : j - zs.length with
            | zero => rfl
            | succ m =>
              rw [ez] at e
              simp at e
          rw [ej] at e
          have : j = i := by omega
          rw [this, ← Option.some.inj e]
          exact hz2
      · rw [upd_same, List.map_append]
        rfl
    rintro H2 ⟨s3, zs, hz, hk, h2⟩
    have hzn : zs.length = n := by omega
    obtain ⟨W3, s4⟩ := (W1.grow s3).freeze (W1.tg.fr nD) h2
    have hD : upd B1 D (.lst (zs.map V.str)) D = some (.lst (zs.map V.str)) := upd_same
    generalize upd B1 D (.lst (zs.map V.str)) = B3 at W3 s4 hD
    have hlB3 := s4.seq hlB
    -- the facts
    refine ⟨Wk.bl, fun l2 nl2 => ?_⟩
    obtain ⟨W4, s5⟩ := W3.imm nl2 (.lst [])
    have n2 : B3 l2 = none := W3.tg.same.free nl2
    have hl2 : upd B3 l2 (.lst []) l2 = some (.lst []) := upd_same
    generalize upd B3 l2 (.lst []) = B4 at W4 s5 hl2
    refine ⟨_, rfl, (n : Int), rfl, by omega, by omega, ?_⟩
    refine for_range (lo := 0) (n := ((n : Int)).toNat) (fun k σ H' => ∃ (a b c d : Option V) (B : Hp) (ad : Ro → Addr) (pn : Nat → Pn) (fs : List V), σ = [some (.ref l), some (natV n), some (.ref hm), a, some (.ref D), some (.ref l2), b, c, d] ∧ Same B3 B ∧ B l2 = some (.lst fs) ∧ fs.length = k ∧ HomeW K B hm k (4 * k) ad pn H' ∧ ∀ i, i < k → LastK i (pn i).d ∧ LastK (i + 1) (pn i).z)
      ⟨none, none, none, none, B4, _, _, [], rfl, s5, hl2, rfl, W4, fun i hi => absurd hi (Nat.not_lt_zero i)⟩ ?_ ?_
    · rintro k σ H5 hi ⟨a, b, c, d, B5, ad, pn, fs, rfl, s6, hl2, hfs, W5, hpn⟩
      have hk5 : k < n := by omega
      have e0 : (V.int (0 + (k : Int))) = natV k := by
        show V.int _ = V.int _
        rw [Int.zero_add]
      rw [e0]
      have hlt : k < zs.length := by omega
      obtain ⟨tl, te⟩ := int_text (q := 100000) (r := k) (by omega) (by omega)
      have ev : (1000000 : Int) + (k : Int) = ((10 * 100000 + k : Nat) : Int) := by omega
      have lg : ((10 * 100000 + k : Nat) : Int).natAbs.log2 < 1920 := by
        rw [Int.natAbs_natCast]
        exact Nat.lt_trans ((Nat.log2_lt (by omega)).mpr (show 10 * 100000 + k < 2 ^ 20 by omega)) (by decide)
      rw [← ev] at te lg
      have hzk := hk k zs[k] (List.getElem?_eq_getElem hlt)
      obtain ⟨hx, r0⟩ := W5.hm
      have hD5 := W5.tg.same _ _ (s6 _ _ hD)
      have ex : (zs.map V.str)[k]? = some (.str zs[k]) := by rw [List.getElem?_map, List.getElem?_eq_getElem hlt]; rfl
      refine ⟨_, rfl, hm, _, _, rfl, W5.tg.same _ _ r0, mHome_add, _, rfl, _, _, rfl, rfl, _, rfl, lg, _, rfl, _, rfl, D, _, _, _, rfl, rfl, SqL.of hD5, atI_nat ex, ?_⟩
      refine ⟨B5, hm, k, 4 * k, ad, pn, _, _, rfl, W5, by omega, fun i hik => ⟨fun q => ?_, fun q => ?_⟩, fun H6 ad6 pn6 v6 e1 e2 e3 W6 => ?_⟩
      · have := lastK_inj (by omega) (by omega) (hpn i hik).1 (q ▸ te)
        omega
      · have : LastK (i + 1) zs[k] := q ▸ (hpn i hik).2
        have := numK_inj (by omega) (by omega) this hzk
        omega
      have hpn6 : ∀ i, i < k + 1 → LastK i (pn6 i).d ∧ LastK (i + 1) (pn6 i).z := fun i hik => by
        by_cases z : i = k
        · rw [z, e2, e3]
          exact ⟨te, hzk⟩
        · rw [(e1 i (by omega)).1, (e1 i (by omega)).2]
          exact hpn i (by omega)
      clear e1 e2 e3 hpn te lg tl ev hzk
      refine ⟨_, rfl, _, rfl, _, _, rfl, rfl, mulL, _, _, rfl, rfl, l, ns, 2 * k + 2, ?_, W6.tg.same.seq (s6.seq hlB3), fun c0 => ?_⟩
      · show [V.ref l, V.int (2 * (k : Int) + 2)] = [V.ref l, V.int ((2 * k + 2 : Nat) : Int)]
        rw [show ((2 * k + 2 : Nat) : Int) = 2 * (k : Int) + 2 by omega]
      refine fun fd nfd => ?_
      obtain ⟨W7, s7⟩ := W6.imm nfd (.dK [])
      have n7 : B5 fd = none := W6.tg.same.free nfd
      have h7 : upd B5 fd (.dK []) fd = some (.dK []) := upd_same
      refine ⟨Wk.bl, fun lk nlk => ?_⟩
      obtain ⟨W8, s8⟩ := W7.imm nlk (.lst [.str "always", .str "busy", .str "unanswered", .str "unreachable"])
      have hlk : upd (upd B5 fd (.dK [])) lk (.lst [.str "always", .str "busy", .str "unanswered", .str "unreachable"]) lk = some (.lst [.str "always", .str "busy", .str "unanswered", .str "unreachable"]) := upd_same
      have h8 := s8 _ _ h7
      have s58 := s7.trans s8
      have nkf : lk ≠ fd := fun e => by
        rw [e, upd_same] at nlk
        cases nlk
      generalize upd (upd B5 fd (.dK [])) lk (.lst [.str "always", .str "busy", .str "unanswered", .str "unreachable"]) = B8 at W8 s8 hlk h8 s58
      have s5f : ∀ kvs, Same B5 (upd B8 fd (.dK kvs)) := fun kvs b o e => by
        rw [upd_ne (ne_of_none e n7)]
        exact s58 _ _ e
      have hf : ∀ kvs, upd B8 fd (.dK kvs) fd = some (.dK kvs) := fun kvs => upd_same
      have put : ∀ {kvs kvs' : List (Key × V)} {ad : Ro → Addr} {pn : Nat → Pn} {N : Nat} {H' : Hp}, HomeW K (upd B8 fd (.dK kvs)) hm (k + 1) N ad pn H' → HomeW K (upd B8 fd (.dK kvs')) hm (k + 1) N ad pn (upd H' fd (.dK kvs')) := fun {kvs kvs' ad pn N H'} W => by
        have := (W.own (s5f kvs) n7 (hf kvs) (fun _ _ _ z => by cases z) (.dK kvs')).1
        rw [upd_upd] at this
        exact this
      have W9 : HomeW K (upd B8 fd (.dK [])) hm (k + 1) (4 * k) ad6 pn6 (upd (upd H6 fd (.dK [])) lk (.lst [.str "always", .str "busy", .str "unanswered", .str "unreachable"])) := by
        have : upd B8 fd (.dK []) = B8 := by
          funext b
          by_cases z : b = fd
          · rw [z, upd_same, h8]
          · rw [upd_ne z]
        rw [this]
        exact W8
      clear W8 W7 s7 s8 h7 nlk W6 nfd
      refine ⟨lk, rfl, ⟨_, SqL.of upd_same⟩, ?_⟩
      refine for_list (K := K) (a := lk) (xs := [.str "always", .str "busy", .str "unanswered", .str "unreachable"]) (fun i σ H' => ∃ (c : Int) (x : Option V) (pn' : Nat → Pn) (kvs : List (Key × V)), σ = [some (.ref l), some (natV n), some (.ref hm), some (natV k), some (.ref D), some (.ref l2), some (.int c), some (.ref fd), x] ∧ kvs.length ≤ 2 * i ∧ HomeW K (upd B8 fd (.dK kvs)) hm (k + 1) (4 * k + i) ad6 pn' H' ∧ ∀ j, (pn' j).d = (pn6 j).d ∧ (pn' j).z = (pn6 j).z)
        ⟨c0, _, pn6, [], rfl, Nat.zero_le _, W9, fun j => ⟨rfl, rfl⟩⟩ (fun i σ H' _ ⟨_, _, _, kvs, _, _, W, _⟩ => SqL.of (W.tg.same _ _ ((upd_ne nkf).trans hlk))) ?_ ?_
      · rintro i x σ H7 hi ⟨c, x0, pn7, kvs, rfl, hkv, W7, hp7⟩
        have hi4 : i < 4 := (List.getElem?_eq_some_iff.mp hi).1
        obtain ⟨kx, rfl⟩ : ∃ kx : Str, x = .str kx := by
          rcases (show i = 0 ∨ i = 1 ∨ i = 2 ∨ i = 3 by omega) with rfl | rfl | rfl | rfl <;> exact ⟨_, (Option.some.inj hi).symm⟩
        have hf7 : ∀ {kvs : List (Key × V)} {pn : Nat → Pn} {N : Nat} {H' : Hp}, HomeW K (upd B8 fd (.dK kvs)) hm (k + 1) N ad6 pn H' → H' fd = some (.dK kvs) := fun W => W.tg.same _ _ upd_same
        have small : ∀ {kvs : List (Key × V)}, kvs.length ≤ 100 → kvs.length < sizeLine := fun h => small1 (N := 100) h Wk.bl
        have getP : ∀ {kvs : List (Key × V)} {v : V}, valV (putK kvs (.inr kx) v) (.inr kx) = some v := fun {kvs v} => by rw [valV_put, if_pos rfl]
        refine ⟨_, rfl, _, rfl, _, rfl, _, _, rfl, rfl, _, _, rfl, rfl, (by show (0 : Int) < (n : Int) + 4; omega), ?_⟩
        refine ⟨D, zs, _, rfl, W7.tg.same _ _ (s5f kvs _ _ (s6 _ _ hD)), Int.emod_nonneg _ (by show (n : Int) + 4 ≠ 0; omega), fun v hv => ?_⟩
        refine ⟨_, rfl, _, rfl, fd, _, rfl, DPut.k (k := Sum.inr kx) (hf7 W7) (small (by omega)), ?_⟩
        have W8 := put (kvs' := putK kvs (.inr kx) v) W7
        have l8 := length_putK kvs (.inr kx) v
        apply join (Pv := fun σ H' => ∃ (u : V) (kvs' : List (Key × V)), σ = [some (.ref l), some (natV n), some (.ref hm), some (natV k), some (.ref D), some (.ref l2), some (.int c), some (.ref fd), some (.str kx)] ∧ valV kvs' (.inr kx) = some u ∧ NumV u ∧ kvs'.length ≤ 2 * (i + 1) ∧ HomeW K (upd B8 fd (.dK kvs')) hm (k + 1) (4 * k + i) ad6 pn7 H')
        · intro nxt
          have skip := nxt _ _ ⟨v, _, rfl, getP, hv, by omega, W8⟩
          refine ⟨_, rfl, rfl, _, rfl, ?_⟩
          refine tC (fun _ => ?_) fun _ => iF skip
          refine ⟨_, rfl, _, _, rfl, rfl, cmd, _, _, rfl, rfl, _, rfl, ?_⟩
          refine tC (fun _ => ?_) fun _ => skip
          refine ⟨_, rfl, _, rfl, fd, _, rfl, DPut.k (k := Sum.inr kx) (hf7 W8) (small (by omega)), ?_⟩
          have l9 := length_putK (putK kvs (.inr kx) v) (.inr kx) .non
          exact nxt _ _ ⟨.non, _, rfl, getP, .inl rfl, by omega, put W8⟩
        clear W8 l8 hv v
        rintro σ H9 ⟨u, kvs', rfl, gu, hu, lk', W8⟩
        obtain ⟨hx2, r2⟩ := W8.hm
        have dgu : DGet H9 fd (.str kx) (some u) := by
          have := DGet.k (k := Sum.inr kx) (hf7 W8)
          rw [gu] at this
          exact this
        refine ⟨_, rfl, hm, _, _, rfl, W8.tg.same _ _ r2, mHome_set_forward, _, rfl, _, rfl, _, rfl, _, rfl, fd, _, rfl, dgu, ?_⟩
        refine ⟨_, hm, k + 1, 4 * k + i, ad6, pn7, k, kx, u, rfl, W8, by omega, by omega, hu, fun H10 pn10 v10 e10 W10 => ?_⟩
        refine ⟨_, rfl, _, rfl, _, _, rfl, rfl, _, _, rfl, rfl, ⟨by show (0 : Int) < (n : Int) + 4; omega, by show (n : Int) + 4 < 1073741824; omega⟩, ?_⟩
        exact ⟨_, _, pn10, kvs', rfl, lk', W10, fun j => ⟨(e10 j).1.trans (hp7 j).1, (e10 j).2.trans (hp7 j).2⟩⟩
      · rintro σ H7 ⟨c, x0, pn7, kvs, rfl, hkv, W7, hp7⟩
        have hkv : kvs.length ≤ 8 := hkv
        have W7 : HomeW K (upd B8 fd (.dK kvs)) hm (k + 1) (4 * (k + 1)) ad6 pn7 H7 := W7
        have hf7 : ∀ {kvs : List (Key × V)} {pn : Nat → Pn} {N : Nat} {H' : Hp}, HomeW K (upd B8 fd (.dK kvs)) hm (k + 1) N ad6 pn H' → H' fd = some (.dK kvs) := fun W => W.tg.same _ _ upd_same
        have small : ∀ {kvs : List (Key × V)}, kvs.length ≤ 100 → kvs.length < sizeLine := fun h => small1 (N := 100) h Wk.bl
        have getP : ∀ {kvs : List (Key × V)} {v : V}, valV (putK kvs (.inr "area") v) (.inr "area") = some v := fun {kvs v} => by rw [valV_put, if_pos rfl]
        refine ⟨_, rfl, _, _, rfl, rfl, cmd, _, rfl, fd, _, rfl, DPut.k (k := Sum.inr "area") (hf7 W7) (small (by omega)), ?_⟩
        have W8 := put (kvs' := putK kvs (.inr "area") (.int (c % 5))) W7
        have l8 := length_putK kvs (.inr "area") (.int (c % 5))
        apply join (Pv := fun σ H' => ∃ (u : V) (kvs' : List (Key × V)), σ = [some (.ref l), some (natV n), some (.ref hm), some (natV k), some (.ref D), some (.ref l2), some (.int c), some (.ref fd), x0] ∧ valV kvs' (.inr "area") = some u ∧ (u = .non ∨ ∃ j, u = .int j) ∧ HomeW K (upd B8 fd (.dK kvs')) hm (k + 1) (4 * (k + 1)) ad6 pn7 H')
        · intro nxt
          have skip := nxt _ _ ⟨.int (c % 5), _, rfl, getP, .inr ⟨_, rfl⟩, W8⟩
          refine ⟨_, rfl, _, _, rfl, rfl, cmd, rfl, _, rfl, ?_⟩
          refine tC (fun _ => ?_) fun _ => skip
          refine ⟨_, rfl, fd, _, rfl, DPut.k (k := Sum.inr "area") (hf7 W8) (small (by omega)), ?_⟩
          exact nxt _ _ ⟨.non, _, rfl, getP, .inl rfl, put W8⟩
        clear W8 l8
        rintro σ H9 ⟨u, kvs', rfl, gu, hu, W8⟩
        have dgu : DGet H9 fd (.str "area") (some u) := by
          have := DGet.k (k := Sum.inr "area") (hf7 W8)
          rw [gu] at this
          exact this
        apply join (Pv := fun σ H' => ∃ (pn' : Nat → Pn), σ = [some (.ref l), some (natV n), some (.ref hm), some (natV k), some (.ref D), some (.ref l2), some (.int c), some (.ref fd), x0] ∧ HomeW K (upd B8 fd (.dK kvs')) hm (k + 1) (4 * (k + 1)) ad6 pn' H' ∧ ∀ j, (pn' j).d = (pn6 j).d ∧ (pn' j).z = (pn6 j).z)
        · intro nxt
          have skip := nxt _ _ ⟨pn7, rfl, W8, hp7⟩
          refine ⟨_, rfl, fd, _, rfl, dgu, rfl, _, rfl, ?_⟩
          refine nC (fun hne => ?_) fun _ => skip
          obtain ⟨j, rfl⟩ := hu.resolve_left hne
          obtain ⟨hx2, r2⟩ := W8.hm
          refine ⟨_, rfl, hm, _, _, rfl, W8.tg.same _ _ r2, mHome_set_area, _, rfl, _, rfl, fd, _, rfl, dgu, ?_⟩
          refine ⟨_, hm, k + 1, _, ad6, pn7, k, j, rfl, W8, by omega, fun H10 pn10 e10 W10 => ?_⟩
          exact nxt _ _ ⟨pn10, rfl, W10, fun j => ⟨(e10 j).1.trans (hp7 j).1, (e10 j).2.trans (hp7 j).2⟩⟩
        rintro σ H10 ⟨pn10, rfl, W10, hp10⟩
        have hl2' := s5f kvs' _ _ hl2
        have hl2H := W10.tg.same _ _ hl2'
        obtain ⟨W11, s11⟩ := W10.own (B0 := B3) (s6.trans (s5f kvs')) n2 hl2' (fun _ _ _ z => by cases z) (.lst (fs ++ [.ref fd]))
        refine ⟨_, rfl, .inl ⟨rfl, _, SqL.of hl2H⟩, _, rfl, l2, _, _, rfl, rfl, hl2H, ?_, ?_⟩
        · rw [hfs]
          exact small1 (N := 5) (by omega) Wk.bl
        refine ⟨_, _, _, _, _, ad6, pn10, _, rfl, s11, upd_same, by rw [List.length_append, hfs]; rfl, W11, fun i hi => ?_⟩
        rw [(hp10 i).1, (hp10 i).2]
        exact hpn6 i hi
    · rintro σ H5 ⟨a, b, c, d, B5, ad, pn, fs, rfl, s6, hl2, hfs, W5, hpn⟩
      refine ⟨_, rfl, _, rfl, _, rfl, Wk.bl, fun t nt => ?_⟩
      have s8 := same_upd (o := .tup [.ref hm, .ref D, .ref l2]) nt
      have ek : ((n : Int)).toNat = n := by omega
      rw [ek] at W5
      exact go _ t hm D l2 zs ((((s1.trans s4).trans s6).trans W5.tg.same).trans s8) upd_same (W5.grow s8).done (s8 _ _ (W5.tg.same _ _ (s6 _ _ hD))) hzn
end
end Wk
end
section
set_option Elab.async false
set_option linter.all false
set_option maxRecDepth 100000
/-! The network is made. -/
namespace Wk
open PySem L2 He Mth Fl Wl Tx PyProof.Rows
/-- a person at first -/
def pd0 : Pd := ⟨.idle, .int 0, .str "", false, [], [], false, false, false, [], []⟩
def m0 : M := ⟨fun _ => pd0, [], []⟩
def lay0 (ad dx : Ro → Addr) : Lay := ⟨ad, dx, fun _ => [], fun _ => [], []⟩
/-- the objects when k persons are made; the list of phones stands at .call 0 -/
def bob (K : PySem.W.Frag) (F : Fx) (k : Nat) (ad dx : Ro → Addr) : Ro → Option HO := fun r => if r = .call 0 then some (.lst (rng k fun i => .ref (ad (.ph i)))) else obj K { F with n := k } (lay0 ad dx) m0 r
theorem good0 (n : Nat) : Mth.Good n m0 :=
  ⟨fun c hc => (nomatch hc), fun i hi => (nomatch hi), List.nodup_nil, fun c hc => (nomatch hc), List.nodup_nil, fun c hc => (nomatch hc), fun i _ _ => ⟨fun _ => ⟨rfl, rfl, rfl⟩, fun z => nomatch z⟩⟩
theorem lim0 (n : Nat) : Lim n 0 m0 := ⟨fun _ _ => Nat.le_refl _, fun _ _ => Nat.le_refl _, fun _ _ => Nat.le_refl _, fun _ _ => Nat.le_refl _, Nat.le_refl _⟩
section
variable {K : PySem.W.Frag} {F : Fx} {B H H' : Hp} {k : Nat} {ad dx : Ro → Addr}
theorem bob_ne {r : Ro} (h : r ≠ .call 0) : bob K F k ad dx r = obj K { F with n := k } (lay0 ad dx) m0 r := if_neg h
theorem bob_calls : bob K F k ad dx (.call 0) = some (.lst (rng k fun i => .ref (ad (.ph i)))) := if_pos rfl
/-- where the lists stand -/
structure Spots (F : Fx) (ad : Ro → Addr) : Prop where
  calls : ad (.call 0) = F.calls
  li : ad .li = F.li
  re : ad .re = F.re
  pa : ad .pa = F.pa
  up : ad .up = F.up
  dn : ad .dn = F.dn
  sw : ad .sw = F.sw
  bk : ad .bk = F.bk
  bkr : ad .bkr = F.bkr
/-- one person more -/
def ad1 (ad : Ro → Addr) (k : Nat) (x l l2 q q2 : Addr) : Ro → Addr := updA (updA (updA (updA (updA ad (.ph k) x) (.sd k) l) (.hd k) l2) (.upq k) q) (.dnq k) q2
theorem ad1_ne {x l l2 q q2 : Addr} {r : Ro} (h : match r with | .ph i | .sd i | .hd i | .upq i | .dnq i => i ≠ k | _ => True) : ad1 ad k x l l2 q q2 r = ad r := by
  unfold ad1
  rw [updA_ne, updA_ne, updA_ne, updA_ne, updA_ne]
  all_goals
    intro e
    subst e
    exact absurd rfl h
theorem Spots.next (h : Spots F ad) (x l l2 q q2 : Addr) : Spots F (ad1 ad k x l l2 q q2) := by
  obtain ⟨h1, h2, h3, h4, h5, h6, h7, h8, h9⟩ := h
  constructor <;> (rw [ad1_ne trivial]; assumption)
/-- the objects behind one turn -/
def chain (K : PySem.W.Frag) (F : Fx) (k : Nat) (ad dx : Ro → Addr) (dxk x l l2 q q2 : Addr) : Ro → Option HO :=
  updR (updR (updR (updR (updR (updR (updR (updR (updR (updR (updR (bob K F k ad dx) (.ph k) (.ins (ga K "PhoneCall") dxk (phF0 l l2))) (.sd k) (.lst [])) (.hd k) (.lst [])) (.call 0) (.lst (rng k (fun i => .ref (ad (.ph i))) ++ [.ref x])))
    .li (.lst (rng k (fun _ => .bl false) ++ [.bl false]))) .re (.lst (rng k (fun _ => .bl false) ++ [.bl false]))) (.upq k) (.lst [])) .up (.lst (rng k (fun i => .ref (ad (.upq i))) ++ [.ref q]))) (.dnq k) (.lst [])) .dn (.lst (rng k (fun i => .ref (ad (.dnq i))) ++ [.ref q2])))
    .pa (.lst (rng k (fun _ => .bl false) ++ [.bl false]))
theorem ad1_at {x l l2 q q2 : Addr} : ad1 ad k x l l2 q q2 (.ph k) = x ∧ ad1 ad k x l l2 q q2 (.sd k) = l ∧ ad1 ad k x l l2 q q2 (.hd k) = l2 ∧ ad1 ad k x l l2 q q2 (.upq k) = q ∧ ad1 ad k x l l2 q q2 (.dnq k) = q2 := by
  unfold ad1
  refine ⟨?_, ?_, ?_, ?_, ?_⟩ <;> simp [updA]
theorem rng_next {f g : Nat → V} {v : V} (h : ∀ i, i ≠ k → f i = g i) (e : f k = v) : rng (k + 1) f = rng k g ++ [v] := by
  rw [rng_app, e]
  exact congrArg (· ++ [v]) (rng_congr fun i hi => h i (Nat.ne_of_lt hi))
theorem bob_next (dxk x l l2 q q2 : Addr) (r : Ro) : bob K F (k + 1) (ad1 ad k x l l2 q q2) (updA dx (.ph k) dxk) r = chain K F k ad dx dxk x l l2 q q2 r := by
  obtain ⟨a1, a2, a3, a4, a5⟩ := ad1_at (ad := ad) (k := k) (x := x) (l := l) (l2 := l2) (q := q) (q2 := q2)
  unfold chain
  cases r with
  | call a =>
    by_cases za : a = 0
    · subst za
      simp only [updR, reduceCtorEq, ite_false, ite_true, if_true, if_false]
      rw [bob_calls]
      exact congrArg (fun q => some (HO.lst q)) (rng_next (fun i hi => by rw [ad1_ne (r := .ph i) hi]) (by rw [a1]))
    · have na : Ro.call a ≠ .call 0 := fun y => za (by injection y)
      simp only [updR, reduceCtorEq, ite_false, ite_true, if_true, if_false, if_neg na]
      rw [bob_ne na, bob_ne na]
      rfl
  | li =>
    simp only [updR, reduceCtorEq, ite_false, ite_true, if_true, if_false]
    rw [bob_ne (by intro y; cases y)]
    exact congrArg (fun q => some (HO.lst q)) (rng_next (fun i hi => rfl) rfl)
  | re =>
    simp only [updR, reduceCtorEq, ite_false, ite_true, if_true, if_false]
    rw [bob_ne (by intro y; cases y)]
    exact congrArg (fun q => some (HO.lst q)) (rng_next (fun i hi => rfl) rfl)
  | pa =>
    simp only [updR, reduceCtorEq, ite_false, ite_true, if_true, if_false]
    rw [bob_ne (by intro y; cases y)]
    exact congrArg (fun q => some (HO.lst q)) (rng_next (fun i hi => rfl) rfl)
  | up =>
    simp only [updR, reduceCtorEq, ite_false, ite_true, if_true, if_false]
    rw [bob_ne (by intro y; cases y)]
    exact congrArg (fun z => some (HO.lst z)) (rng_next (fun i hi => by show V.ref (ad1 ad k x l l2 q q2 (.upq i)) = V.ref (ad (.upq i)); rw [ad1_ne (r := .upq i) hi]) (by show V.ref (ad1 ad k x l l2 q q2 (.upq k)) = V.ref q; rw [a4]))
  | dn =>
    simp only [updR, reduceCtorEq, ite_false, ite_true, if_true, if_false]
    rw [bob_ne (by intro y; cases y)]
    exact congrArg (fun z => some (HO.lst z)) (rng_next (fun i hi => by show V.ref (ad1 ad k x l l2 q q2 (.dnq i)) = V.ref (ad (.dnq i)); rw [ad1_ne (r := .dnq i) hi]) (by show V.ref (ad1 ad k x l l2 q q2 (.dnq k)) = V.ref q2; rw [a5]))
  | upq i =>
    rw [bob_ne (by intro y; cases y)]
    by_cases zi : i = k
    · subst zi
      simp only [updR, reduceCtorEq, ite_false, ite_true, if_true, if_false]
      exact if_pos (Nat.lt_succ_self i)
    · have ni : Ro.upq i ≠ .upq k := fun y => zi (by injection y)
      simp only [updR, reduceCtorEq, ite_false, ite_true, if_true, if_false, if_neg ni]
      rw [bob_ne (by intro y; cases y)]
      show (if i < k + 1 then _ else none) = if i < k then _ else none
      by_cases hi : i < k
      · rw [if_pos hi, if_pos (by omega)]
        rfl
      · rw [if_neg hi, if_neg (by omega)]
  | dnq i =>
    rw [bob_ne (by intro y; cases y)]
    by_cases zi : i = k
    · subst zi
      simp only [updR, reduceCtorEq, ite_false, ite_true, if_true, if_false]
      exact if_pos (Nat.lt_succ_self i)
    · have ni : Ro.dnq i ≠ .dnq k := fun y => zi (by injection y)
      simp only [updR, reduceCtorEq, ite_false, ite_true, if_true, if_false, if_neg ni]
      rw [bob_ne (by intro y; cases y)]
      show (if i < k + 1 then _ else none) = if i < k then _ else none
      by_cases hi : i < k
      · rw [if_pos hi, if_pos (by omega)]
        rfl
      · rw [if_neg hi, if_neg (by omega)]
  | sd i =>
    rw [bob_ne (by intro y; cases y)]
    by_cases zi : i = k
    · subst zi
      simp only [updR, reduceCtorEq, ite_false, ite_true, if_true, if_false]
      exact if_pos (Nat.lt_succ_self i)
    · have ni : Ro.sd i ≠ .sd k := fun y => zi (by injection y)
      simp only [updR, reduceCtorEq, ite_false, ite_true, if_true, if_false, if_neg ni]
      rw [bob_ne (by intro y; cases y)]
      show (if i < k + 1 then _ else none) = if i < k then _ else none
      by_cases hi : i < k
      · rw [if_pos hi, if_pos (by omega)]
      · rw [if_neg hi, if_neg (by omega)]
  | hd i =>
    rw [bob_ne (by intro y; cases y)]
    by_cases zi : i = k
    · subst zi
      simp only [updR, reduceCtorEq, ite_false, ite_true, if_true, if_false]
      exact if_pos (Nat.lt_succ_self i)
    · have ni : Ro.hd i ≠ .hd k := fun y => zi (by injection y)
      simp only [updR, reduceCtorEq, ite_false, ite_true, if_true, if_false, if_neg ni]
      rw [bob_ne (by intro y; cases y)]
      show (if i < k + 1 then _ else none) = if i < k then _ else none
      by_cases hi : i < k
      · rw [if_pos hi, if_pos (by omega)]
      · rw [if_neg hi, if_neg (by omega)]
  | ph i =>
    rw [bob_ne (by intro y; cases y)]
    by_cases zi : i = k
    · subst zi
      simp only [updR, reduceCtorEq, ite_false, ite_true, if_true, if_false]
      refine (if_pos (Nat.lt_succ_self i)).trans ?_
      show some (HO.ins _ (updA dx (.ph i) dxk (.ph i)) (phF pd0 (ad1 ad i x l l2 q q2 (.sd i)) (ad1 ad i x l l2 q q2 (.hd i)))) = _
      rw [updA_eq, a2, a3]
      rfl
    · have ni : Ro.ph i ≠ .ph k := fun y => zi (by injection y)
      simp only [updR, reduceCtorEq, ite_false, ite_true, if_true, if_false, if_neg ni]
      rw [bob_ne (by intro y; cases y)]
      show (if i < k + 1 then some (HO.ins _ (updA dx (.ph k) dxk (.ph i)) (phF pd0 (ad1 ad k x l l2 q q2 (.sd i)) (ad1 ad k x l l2 q q2 (.hd i)))) else none) = if i < k then some (HO.ins _ (dx (.ph i)) (phF pd0 (ad (.sd i)) (ad (.hd i)))) else none
      rw [updA_ne ni, ad1_ne (r := .sd i) zi, ad1_ne (r := .hd i) zi]
      by_cases hi : i < k
      · rw [if_pos hi, if_pos (by omega)]
      · rw [if_neg hi, if_neg (by omega)]
  | sw =>
    simp only [updR, reduceCtorEq, ite_false, ite_true, if_true, if_false]
    rw [bob_ne (by intro y; cases y), bob_ne (by intro y; cases y)]
    show some (HO.ins _ (updA dx (.ph k) dxk .sw) (FSwitch _ _ (.ref (ad1 ad k x l l2 q q2 .rows)))) = some (HO.ins _ (dx .sw) (FSwitch _ _ (.ref (ad .rows))))
    rw [updA_ne (by intro y; cases y), ad1_ne trivial]
  | rows =>
    simp only [updR, reduceCtorEq, ite_false, ite_true, if_true, if_false]
    rw [bob_ne (by intro y; cases y), bob_ne (by intro y; cases y)]
    rfl
  | bk =>
    simp only [updR, reduceCtorEq, ite_false, ite_true, if_true, if_false]
    rw [bob_ne (by intro y; cases y), bob_ne (by intro y; cases y)]
    show some (HO.ins _ (updA dx (.ph k) dxk .bk) _) = some (HO.ins _ (dx .bk) _)
    rw [updA_ne (by intro y; cases y)]
  | bkr =>
    simp only [updR, reduceCtorEq, ite_false, ite_true, if_true, if_false]
    rw [bob_ne (by intro y; cases y), bob_ne (by intro y; cases y)]
    rfl
/-- all persons are made: the network stands -/
theorem bob_done {n : Nat} (h : Tg (bob K F n ad dx) ad B H) (S : Spots F ad) (hn : F.n = n) (h2 : 2 ≤ n) (h5 : n ≤ 5) (hw : B F.wd = some (.dK (wdF F))) (hnum : ∃ zs : List Str, B F.nums = some (.lst (zs.map V.str)) ∧ zs.length = n) (hh : HomeAt K B F.home n) (hph : ∀ i, ad (.ph i) = F.ph i) :
    ∃ B', Same B B' ∧ Wd K F B' m0 H := by
  subst hn
  have eF : ({ F with n := F.n } : Fx) = F := rfl
  obtain ⟨t, s⟩ := h.stay (ob' := obj K F (lay0 ad dx) m0) bob_calls fun q u e => by
    have nq : q ≠ .call 0 := fun z => by
      rw [z] at e
      cases e
    exact ⟨nq, by rw [bob_ne nq]; exact e⟩
  refine ⟨_, s, { lay0 ad dx with ad := fun r => match r with | .call a => a | r => ad r }, ?_⟩
  have noc : ∀ a, obj K F (lay0 ad dx) m0 (.call a) = none := fun a => rfl
  have key : ∀ r, obj K F { lay0 ad dx with ad := fun r => match r with | .call a => a | r => ad r } m0 r = obj K F (lay0 ad dx) m0 r := fun r => by
    cases r <;> rfl
  have t2 : Tg (obj K F { lay0 ad dx with ad := fun r => match r with | .call a => a | r => ad r } m0) (fun r => match r with | .call a => a | r => ad r) (upd B (ad (.call 0)) (.lst (rng F.n fun i => .ref (ad (.ph i))))) H := t.congr fun r o e => by
    rw [key r] at e
    refine ⟨e, ?_⟩
    cases r <;> first | rfl | (rw [noc] at e; cases e)
  obtain ⟨s1, s2, s3, s4, s5, s6, s7, s8, s9⟩ := S
  refine ⟨t2.same, t2.objs, t2.inj, t2.out, ⟨s2, s3, s4, s5, s6, s7, s8, s9, hph, fun a => rfl⟩, ⟨s _ _ hw, ?_, ?_, hh.mono s, h2, h5⟩, fun i hi => ⟨.nil, .nil, fun v hv => (nomatch hv), fun v hv => (nomatch hv), .inr ⟨"", rfl⟩⟩, .nil, List.nodup_nil⟩
  · obtain ⟨zs, e, l⟩ := hnum
    exact ⟨zs, s _ _ e, l⟩
  · rw [← s1, upd_same]
    exact congrArg (fun q => some (HO.lst q)) (rng_congr fun i _ => by rw [hph])
end
end Wk
end
section
set_option Elab.async false
set_option linter.all false
set_option maxRecDepth 100000
/-! The walk: the law. -/
namespace Wk
open PySem L2 He Mth Fl Wl Tx PyProof.Rows
theorem none_made {H : Hp} {x dx y : Addr} {o u : HO} (h : upd (upd H dx o) x u y = none) : y ≠ x ∧ y ≠ dx ∧ H y = none := by
  have h1 : y ≠ x := fun e => by
    rw [e, upd_same] at h
    cases h
  rw [upd_ne h1] at h
  have h2 : y ≠ dx := fun e => by
    rw [e, upd_same] at h
    cases h
  rw [upd_ne h2] at h
  exact ⟨h1, h2, h⟩
theorem Tg.put2 {ob : Ro → Option HO} {ad : Ro → Addr} {B H : Hp} (h : Tg ob ad B H) {r : Ro} {u : HO} {a : Addr} (o1 : HO) (e : ob r = some u) (ha : ad r = a) : Tg (updR ob r o1) ad B (upd H a o1) := ha ▸ h.put1 o1 e
theorem Tg.at2 {ob : Ro → Option HO} {ad : Ro → Addr} {B H : Hp} (h : Tg ob ad B H) {r : Ro} {o : HO} {a : Addr} (e : ob r = some o) (ha : ad r = a) : H a = some o := ha ▸ h.objs r o e
theorem cut_ints (ns : List Int) (lo hi : Option Int) : ∃ ms : List Int, cutV (ns.map V.int) lo hi = ms.map V.int ∧ ms.length ≤ ns.length := by
  unfold cutV
  rw [← List.map_drop, ← List.map_take]
  exact ⟨_, rfl, by rw [List.length_take, List.length_drop]; omega⟩
theorem int_at {ns : List Int} {i : Nat} {x : V} (h : (ns.map V.int)[i]? = some x) : ∃ c, x = .int c := by
  rw [List.getElem?_map] at h
  cases e : ns[i]? with
  | none =>
    rw [e] at h
    cases h
  | some p =>
    rw [e] at h
    exact ⟨p, (Option.some.inj h).symm⟩
def fx1 (F : Fx) (ad : Ro → Addr) : Fx := { F with ph := fun i => ad (.ph i) }
/-- where things stand at first -/
def adr (p q1 q2 q3 q4 q5 q6 x y kb rl : Addr) : Ro → Addr
  | .call a => if a = 1 then p else q1
  | .li => q2
  | .re => q3
  | .up => q4
  | .dn => q5
  | .pa => q6
  | .sw => x
  | .bk => y
  | .bkr => kb
  | .rows => rl
  | _ => 0
def dxr (dx dy : Addr) : Ro → Addr
  | .sw => dx
  | _ => dy
def fx0 (n : Nat) (hm l1 p q1 q2 q3 q4 q5 q6 x y kb : Addr) : Fx := { n := n, wd := p, nums := l1, calls := q1, li := q2, re := q3, pa := q6, up := q4, dn := q5, sw := x, bk := y, bkr := kb, home := hm, ph := fun _ => 0 }
section
variable {P : Program} {w : World} {K : PySem.W.Frag} {mg : Str → Option Value} {base : Heap}
theorem wd_made (a b c d e f g h : V) : putK (putK (putK (mergeK [] [((.inr "numbers" : Key), a), (.inr "switch", b), (.inr "calls", c), (.inr "linked", d), (.inr "released", e)]) (.inr "up") f) (.inr "down") g) (.inr "paged") h =
    [(.inr "numbers", a), (.inr "switch", b), (.inr "calls", c), (.inr "linked", d), (.inr "released", e), (.inr "up", f), (.inr "down", g), (.inr "paged", h)] := by kernel_rfl
/-- the objects at first, as they are made -/
def ch0 (K : PySem.W.Frag) (hm x dx y dy kb rl : Addr) (k1 k2 k3 k4 : List (Key × V)) : Ro → Option HO :=
  updR (updR (updR (updR (updR (updR (updR (updR (updR (updR (updR (updR (updR (updR (updR (fun _ => none) (.call 1) (.dK [])) .sw (.ins (ga K "Switch") dx (FSwitch (.ref hm) (.ref y) (.ref rl)))) .bk (.ins (ga K "Book") dy (FBook (.ref kb)))) .bkr (.lst [])) .rows (.lst [])) (.call 0) (.lst [])) .li (.lst [])) .re (.lst [])) (.call 1) (.dK k1))
    .up (.lst [])) (.call 1) (.dK k2)) .dn (.lst [])) (.call 1) (.dK k3)) .pa (.lst [])) (.call 1) (.dK k4)
def ca0 (p q1 q2 q3 q4 q5 q6 x y kb rl : Addr) : Ro → Addr :=
  updA (updA (updA (updA (updA (updA (updA (updA (updA (updA (updA (fun _ => 0) (.call 1) p) .sw x) .bk y) .bkr kb) .rows rl) (.call 0) q1) .li q2) .re q3) .up q4) .dn q5) .pa q6
theorem ch0_live {hm l1 p q1 q2 q3 q4 q5 q6 x dx y dy kb rl : Addr} {k1 k2 k3 k4 : List (Key × V)} {n : Nat} : ∀ q u, bob K (fx0 n hm l1 p q1 q2 q3 q4 q5 q6 x y kb) 0 (adr p q1 q2 q3 q4 q5 q6 x y kb rl) (dxr dx dy) q = some u →
    q ≠ .call 1 ∧ ch0 K hm x dx y dy kb rl k1 k2 k3 k4 q = some u ∧ adr p q1 q2 q3 q4 q5 q6 x y kb rl q = ca0 p q1 q2 q3 q4 q5 q6 x y kb rl q := fun q u e => by
  cases q with
  | call a =>
    by_cases z : a = 0
    · subst z
      rw [bob_calls] at e
      exact ⟨(by intro y; cases y), e, rfl⟩
    · rw [bob_ne fun y => z (by injection y)] at e
      cases e
  | ph i => rw [bob_ne (by intro y; cases y)] at e; simp [obj] at e
  | sd i => rw [bob_ne (by intro y; cases y)] at e; simp [obj] at e
  | hd i => rw [bob_ne (by intro y; cases y)] at e; simp [obj] at e
  | upq i => rw [bob_ne (by intro y; cases y)] at e; simp [obj] at e
  | dnq i => rw [bob_ne (by intro y; cases y)] at e; simp [obj] at e
  | _ =>
    rw [bob_ne (by intro y; cases y)] at e
    exact ⟨(by intro y; cases y), e, rfl⟩
def spLaw (K : PySem.W.Frag) : Sp := fun vs H Q _ => ∃ (l : Addr) (ns : List Int), vs = [.ref l] ∧ SqL K H l (ns.map V.int) ∧ ns.length ≤ 63 ∧ ∀ H', Q (.bl true) H'
theorem ok_law (N0 : NextIn P w K (ga K "NEXT")) (T : Txt K mg) {fd : FuncData} (Fn : FnP K "law" "law" s_law (ga K "law") fd) : FnOk P w K mg base CX0 8 (ga K "law") fd ["_law_script"] (spLaw K) := by
  obtain ⟨_, G_law_cell, b_law_cell, k_law_cell⟩ := ok_law_cell (P := P) (w := w) (base := base) T
  obtain ⟨_, G_law_home, b_law_home, k_law_home⟩ := ok_law_home (P := P) (w := w) (base := base) T
  obtain ⟨_, G_Switch_init, b_Switch_init, k_Switch_init⟩ := ok_Switch_init (P := P) (w := w) (base := base) T
  obtain ⟨_, G_PhoneCall_init, b_PhoneCall_init, k_PhoneCall_init⟩ := ok_PhoneCall_init (P := P) (w := w) (base := base) T
  obtain ⟨_, G_law_mixed, b_law_mixed, k_law_mixed⟩ := ok_law_mixed (P := P) (w := w) (base := base) T
  obtain ⟨_, G_law_move, b_law_move, k_law_move⟩ := ok_law_move (base := base) N0 T
  obtain ⟨_, G_law_ordered, b_law_ordered, k_law_ordered⟩ := ok_law_ordered (P := P) (w := w) (base := base) T
  obtain ⟨_, G_law_up, b_law_up, k_law_up⟩ := ok_law_up (P := P) (w := w) (base := base) T
  obtain ⟨_, G_law_down, b_law_down, k_law_down⟩ := ok_law_down (base := base) N0 T
  refine Fn.ok sc_law (fun vs H Q E h => ?_) (fun cdv A outer s H vs Q E hr h => ?_)
  · obtain ⟨l, ns, rfl, _⟩ := h
    rfl
  · obtain ⟨l, ns, rfl, hl, hn, go⟩ := h
    refine ⟨_, PSs.nox (pss_cons (ps_set (i := 1) sc_law.nd rfl (Or.inl rfl) (pe_op op_add pe_int (pe_op op_mod (pe_call G_law_cell (hr.mono (by decide)) rfl (mg_law_cell T) k_law_cell b_law_cell .nil pass0 (pa_cons (pv 0) (pa_cons pe_int pa_nil))) pe_int)))
    (pss_cons (ps_asg (pe_call G_law_home (hr.mono (by decide)) rfl (mg_law_home T) k_law_home b_law_home .nil pass0 (pa_cons (pv 0) (pa_cons (pv 1) pa_nil))) (pg_tup (by rfl) (pgs_cons (pg_name (i := 2) sc_law.nd rfl (Or.inl rfl)) (pgs_cons (pg_name (i := 3) sc_law.nd rfl (Or.inl rfl)) (pgs_cons (pg_name (i := 4) sc_law.nd rfl (Or.inl rfl)) pgs_nil)))))
    (pss_cons (ps_set (i := 5) sc_law.nd rfl (Or.inr rfl) (pe_disp (pps_cons pe_str (pv 3) (pps_cons pe_str (pe_make (mk_Switch T) G_Switch_init (hr.mono (by decide)) rfl (mg_Switch T) b_Switch_init .nil pass0 (pa_cons (pv 2) pa_nil)) (pps_cons pe_str (pe_lst pa_nil) (pps_cons pe_str (pe_lst pa_nil) (pps_cons pe_str (pe_lst pa_nil) pps_nil))))) (by rfl) (by rfl) (fun z => by cases z) (by decide)))
    (pss_cons (ps_dput (hu_of hr) (pv 5) pe_str (pe_lst pa_nil) rfl)
    (pss_cons (ps_dput (hu_of hr) (pv 5) pe_str (pe_lst pa_nil) rfl)
    (pss_cons (ps_dput (hu_of hr) (pv 5) pe_str (pe_lst pa_nil) rfl)
    (pss_cons (ps_for PassesOwn.never rfl (pi_range1 rfl (fr_range T) (pa_cons (pv 1) pa_nil)) (pg_name (i := 4) sc_law.nd rfl (Or.inl rfl))
      (pss_cons (ps_expr (pe_bm PySem.F.plainAttrs_list PySem.F.slot_list_append PySem.F.type_list_append mt_append (pe_dget (hu_of hr) (pv 5) pe_str (fun _ _ => rfl)) (pa_cons (pe_make0 (mk_PhoneCall T) G_PhoneCall_init (hr.mono (by decide)) rfl (mg_PhoneCall T) b_PhoneCall_init .nil pass0) pa_nil)))
      (pss_cons (ps_expr (pe_bm PySem.F.plainAttrs_list PySem.F.slot_list_append PySem.F.type_list_append mt_append (pe_dget (hu_of hr) (pv 5) pe_str (fun _ _ => rfl)) (pa_cons pe_bl pa_nil)))
      (pss_cons (ps_expr (pe_bm PySem.F.plainAttrs_list PySem.F.slot_list_append PySem.F.type_list_append mt_append (pe_dget (hu_of hr) (pv 5) pe_str (fun _ _ => rfl)) (pa_cons pe_bl pa_nil)))
      (pss_cons (ps_expr (pe_bm PySem.F.plainAttrs_list PySem.F.slot_list_append PySem.F.type_list_append mt_append (pe_dget (hu_of hr) (pv 5) pe_str (fun _ _ => rfl)) (pa_cons (pe_lst pa_nil) pa_nil)))
      (pss_cons (ps_expr (pe_bm PySem.F.plainAttrs_list PySem.F.slot_list_append PySem.F.type_list_append mt_append (pe_dget (hu_of hr) (pv 5) pe_str (fun _ _ => rfl)) (pa_cons (pe_lst pa_nil) pa_nil)))
      (pss_one (ps_expr (pe_bm PySem.F.plainAttrs_list PySem.F.slot_list_append PySem.F.type_list_append mt_append (pe_dget (hu_of hr) (pv 5) pe_str (fun _ _ => rfl)) (pa_cons pe_bl pa_nil))))))))))
    (pss_cons (ps_set (i := 6) sc_law.nd rfl (Or.inl rfl) pe_int)
    (pss_cons (ps_for PassesOwn.never rfl (pi_enum (by rfl) (fr_enumerate T) (pa_cons (pe_slice sl_list (pv 0) (po_some (pe_op op_add (pe_op op_mul pe_int (pv 1)) pe_int)) (po_some pe_int)) pa_nil)) (pg_tup (by rfl) (pgs_cons (pg_name (i := 7) sc_law.nd rfl (Or.inl rfl)) (pgs_cons (pg_name (i := 8) sc_law.nd rfl (Or.inl rfl)) pgs_nil)))
      (pss_cons (ps_set (i := 9) sc_law.nd rfl (Or.inl rfl) (pe_call G_law_mixed (hr.mono (by decide)) rfl (mg_law_mixed T) k_law_mixed b_law_mixed .nil pass0 (pa_cons (pv 8) (pa_cons (pv 7) pa_nil))))
      (pss_cons (ps_set (i := 6) sc_law.nd rfl (Or.inl rfl) (pe_op op_add (pv 6) (pe_op op_mod (pv 9) pe_int)))
      (pss_cons (ps_expr (pe_call G_law_move (hr.mono (by decide)) rfl (mg_law_move T) k_law_move b_law_move .nil pass0 (pa_cons (pv 5) (pa_cons (pe_op op_fdiv (pv 9) pe_int) (pa_cons (pv 6) pa_nil)))))
      (pss_one (ps_if (pt_not (pt_val (pe_call G_law_ordered (hr.mono (by decide)) rfl (mg_law_ordered T) k_law_ordered b_law_ordered .nil pass0 (pa_cons (pv 5) (pa_cons pe_bl pa_nil)))))
        (pss_one (ps_ret pe_bl))
        pss_nil))))))
    (pss_cons (ps_for PassesOwn.never rfl (pi_range1 rfl (fr_range T) (pa_cons pe_int pa_nil)) (pg_name (i := 4) sc_law.nd rfl (Or.inl rfl))
      (pss_one (ps_for PassesOwn.never rfl (pi_range1 rfl (fr_range T) (pa_cons (pv 1) pa_nil)) (pg_name (i := 10) sc_law.nd rfl (Or.inl rfl))
        (pss_cons (ps_expr (pe_call G_law_up (hr.mono (by decide)) rfl (mg_law_up T) k_law_up b_law_up .nil pass0 (pa_cons (pv 5) (pa_cons (pv 10) (pa_cons (pv 6) pa_nil)))))
        (pss_one (ps_expr (pe_call G_law_down (hr.mono (by decide)) rfl (mg_law_down T) k_law_down b_law_down .nil pass0 (pa_cons (pv 5) (pa_cons (pv 10) pa_nil)))))))))
    (pss_cons (ps_setLc (i := 11) (own := [("_law_k", 12)]) (g := gName 12) (tt := (tOr (tTest (tOp (rEqR K true) (tOp (rIxL K) (tDGet (tVar 5) (L2.tC (.str "up"))) (tVar 12)) (tLst tNil))) (tTest (tOp (rEqR K true) (tOp (rIxL K) (tDGet (tVar 5) (L2.tC (.str "down"))) (tVar 12)) (tLst tNil))))) (te := (tVar 12)) rfl sc_law.nd rfl rfl (sw_true rfl rfl rfl (by decide +kernel)) (pi_range1 rfl (fr_range T) (pa_cons (pv 1) pa_nil)) (blkOk_by (own := [("_law_k", 12)]) (N := n_law) (sc := defScope s_law) (by decide +kernel)) (fun _ _ _ _ _ => pg_name (i := 12) sc_law.nd rfl (Or.inl rfl)) (fun _ _ _ _ _ => (pts_one (PW.pt (pw_or (pt_cmpR (op_neR (Nat.lt_of_succ_lt (hu_of hr))) (pe_ix ix_list (pe_dget (hu_of hr) (pv 5) pe_str (fun _ _ => rfl)) (pv 12) (fun _ _ => rfl)) (pe_lst pa_nil) (nomark _)) (pw_or1 (pt_cmpR (op_neR (Nat.lt_of_succ_lt (hu_of hr))) (pe_ix ix_list (pe_dget (hu_of hr) (pv 5) pe_str (fun _ _ => rfl)) (pv 12) (fun _ _ => rfl)) (pe_lst pa_nil) (nomark _))))))) (fun _ _ _ _ _ => (pv 12)))
    (pss_one (ps_ret (pe_call G_law_ordered (hr.mono (by decide)) rfl (mg_law_ordered T) k_law_ordered b_law_ordered .nil pass0 (pa_cons (pv 5) (pa_cons (pe_cmpR (op_eqR (Nat.lt_of_succ_lt (hu_of hr))) (pv 11) (pe_lst pa_nil) (nomark _)) pa_nil)))))))))))))))), ?_⟩
    refine ⟨_, rfl, l, ns, 0, rfl, hl, fun c => ?_⟩
    refine ⟨_, _, rfl, rfl, cmd, _, _, rfl, rfl, ?_⟩
    obtain ⟨n, en, n2, n5⟩ : ∃ n : Nat, 2 + c % 4 = (n : Int) ∧ 2 ≤ n ∧ n ≤ 5 := ⟨(2 + c % 4).toNat, by omega, by omega, by omega⟩
    refine gval (y := natV n) (congrArg V.int en) ?_
    refine ⟨_, rfl, _, rfl, l, ns, n, rfl, hl, n5, fun H1 t hm l1 lf zs s1 ht hH h1 hz => ?_⟩
    refine ⟨t, _, rfl, SqT.of ht, rfl, _, _, rfl, _, _, rfl, _, _, rfl, rfl, ?_⟩
    have hl1 := s1.seq hl
    clear s1 ht hl
    -- the network's dict
    refine fun p np => ?_
    have T0 : Tg (fun _ => none) (fun _ => 0) H1 H1 := ⟨Same.refl _, fun r o e => (nomatch e), fun r r' o o' e => (nomatch e), fun r o e => (nomatch e)⟩
    have T1 := T0.new1 (.call 1) (T0.fr np) (same_upd (o := .dK []) np) upd_same
    have hm1 := same_upd (o := .dK []) np
    refine ⟨_, rfl, _, rfl, fun x dx nx ndx nxd => ⟨x, dx, hm, rfl, upd_same, fun H3 y dy kb rl off ny nkb nrl d1 d2 d3 hkb hrl hy hx => ⟨rfl, ?_⟩⟩⟩
    obtain ⟨yx, _, ny⟩ := none_made ny
    obtain ⟨kx, _, nkb⟩ := none_made nkb
    obtain ⟨rx, _, nrl⟩ := none_made nrl
    have s3 : Same (upd H1 p (.dK [])) H3 := Same.made nx ndx fun b o e nb => off b o nb e
    have T2 := T1.new1 .sw (T1.fr nx) s3 hx
    have T3 := T2.new1 .bk ((T1.fr ny).new1 .sw _ yx.symm) (Same.refl _) hy
    have T4 := T3.new1 .bkr (((T1.fr nkb).new1 .sw _ kx.symm).new1 .bk _ d1) (Same.refl _) hkb
    have T5 := T4.new1 .rows ((((T1.fr nrl).new1 .sw _ rx.symm).new1 .bk _ d2).new1 .bkr _ d3) (Same.refl _) hrl
    clear T2 T3 T4 off nx ndx nxd yx kx rx ny nkb nrl d1 d2 d3 hkb hrl hy hx T0 T1
    refine ⟨Wk.bl, fun q1 n1 => ⟨Wk.bl, fun q2 n2' => ⟨Wk.bl, fun q3 n3 => ?_⟩⟩⟩
    have T6 := T5.new1 (.call 0) (T5.fr n1) (same_upd (o := .lst []) n1) upd_same
    have T7 := T6.new1 .li (T6.fr n2') (same_upd (o := .lst []) n2') upd_same
    have T8 := T7.new1 .re (T7.fr n3) (same_upd (o := .lst []) n3) upd_same
    refine ⟨T8.objs (.call 1) _ rfl, [(.inr "numbers", .ref l1), (.inr "switch", .ref x), (.inr "calls", .ref q1), (.inr "linked", .ref q2), (.inr "released", .ref q3)], rfl, Wk.bl, ?_⟩
    generalize hk5 : mergeK [] [((.inr "numbers" : Key), V.ref l1), (.inr "switch", .ref x), (.inr "calls", .ref q1), (.inr "linked", .ref q2), (.inr "released", .ref q3)] = k5
    have T9 := T8.put1 (r := .call 1) (.dK k5) rfl
    have l5 : k5.length ≤ 5 := by
      rw [← hk5]
      exact Nat.le_of_eq (by kernel_rfl)
    have small : ∀ {kvs : List (Key × V)}, kvs.length ≤ 100 → kvs.length < sizeLine := fun h => small1 (N := 100) h Wk.bl
    refine ⟨Wk.bl, fun q4 n4 => ?_⟩
    have TA := T9.new1 .up (T9.fr n4) (same_upd (o := .lst []) n4) upd_same
    refine ⟨_, rfl, p, _, rfl, DPut.k (k := Sum.inr "up") (TA.objs (.call 1) _ rfl) (small (by omega)), ?_⟩
    have TB := TA.put1 (r := .call 1) (.dK (putK k5 (.inr "up") (.ref q4))) rfl
    have l6 := length_putK k5 (.inr "up") (.ref q4)
    refine ⟨Wk.bl, fun q5 n5' => ?_⟩
    have TC := TB.new1 .dn (TB.fr n5') (same_upd (o := .lst []) n5') upd_same
    refine ⟨_, rfl, p, _, rfl, DPut.k (k := Sum.inr "down") (TC.objs (.call 1) _ rfl) (small (by omega)), ?_⟩
    have TD := TC.put1 (r := .call 1) (.dK (putK (putK k5 (.inr "up") (.ref q4)) (.inr "down") (.ref q5))) rfl
    have l7 := length_putK (putK k5 (.inr "up") (.ref q4)) (.inr "down") (.ref q5)
    refine ⟨Wk.bl, fun q6 n6 => ?_⟩
    have TE := TD.new1 .pa (TD.fr n6) (same_upd (o := .lst []) n6) upd_same
    refine ⟨_, rfl, p, _, rfl, DPut.k (k := Sum.inr "paged") (TE.objs (.call 1) _ rfl) (small (by omega)), ?_⟩
    have TF := TE.put1 (r := .call 1) (.dK (putK (putK (putK k5 (.inr "up") (.ref q4)) (.inr "down") (.ref q5)) (.inr "paged") (.ref q6))) rfl
    have hkf : putK (putK (putK k5 (.inr "up") (.ref q4)) (.inr "down") (.ref q5)) (.inr "paged") (.ref q6) = wdF (fx0 n hm l1 p q1 q2 q3 q4 q5 q6 x y kb) := by
      rw [← hk5]
      exact wd_made ..
    have TG : Tg (ch0 K hm x dx y dy kb rl k5 (putK k5 (.inr "up") (.ref q4)) (putK (putK k5 (.inr "up") (.ref q4)) (.inr "down") (.ref q5)) (putK (putK (putK k5 (.inr "up") (.ref q4)) (.inr "down") (.ref q5)) (.inr "paged") (.ref q6))) (ca0 p q1 q2 q3 q4 q5 q6 x y kb rl) H1 _ := TF
    clear TF TE TD TC TB TA T9 T8 T7 T6 T5
    obtain ⟨TH, sH⟩ := TG.stay (r := .call 1) (ob' := bob K (fx0 n hm l1 p q1 q2 q3 q4 q5 q6 x y kb) 0 (adr p q1 q2 q3 q4 q5 q6 x y kb rl) (dxr dx dy)) rfl fun q u e => ⟨(ch0_live (k1 := k5) (k2 := k5) (k3 := k5) (k4 := k5) q u e).1, (ch0_live q u e).2.1⟩
    have TI := TH.congr (ad' := adr p q1 q2 q3 q4 q5 q6 x y kb rl) fun r o e => ⟨e, (ch0_live (k1 := k5) (k2 := k5) (k3 := k5) (k4 := k5) r o e).2.2⟩
    have hwd : upd H1 (ca0 p q1 q2 q3 q4 q5 q6 x y kb rl (.call 1)) (.dK (putK (putK (putK k5 (.inr "up") (.ref q4)) (.inr "down") (.ref q5)) (.inr "paged") (.ref q6))) p = some (.dK (wdF (fx0 n hm l1 p q1 q2 q3 q4 q5 q6 x y kb))) := by
      rw [hkf]
      exact upd_same
    generalize upd H1 (ca0 p q1 q2 q3 q4 q5 q6 x y kb rl (.call 1)) (.dK (putK (putK (putK k5 (.inr "up") (.ref q4)) (.inr "down") (.ref q5)) (.inr "paged") (.ref q6))) = B0 at TI sH hwd
    have hHB := hH.mono sH
    have h1B := sH _ _ h1
    have hlB := sH.seq hl1
    have S0 : Spots (fx0 n hm l1 p q1 q2 q3 q4 q5 q6 x y kb) (adr p q1 q2 q3 q4 q5 q6 x y kb rl) := ⟨rfl, rfl, rfl, rfl, rfl, rfl, rfl, rfl, rfl⟩
    have eF : (fx0 n hm l1 p q1 q2 q3 q4 q5 q6 x y kb).wd = p ∧ (fx0 n hm l1 p q1 q2 q3 q4 q5 q6 x y kb).nums = l1 ∧ (fx0 n hm l1 p q1 q2 q3 q4 q5 q6 x y kb).home = hm ∧ (fx0 n hm l1 p q1 q2 q3 q4 q5 q6 x y kb).n = n := ⟨rfl, rfl, rfl, rfl⟩
    clear TG TH sH hkf hk5 l5 l6 l7 n6 n5' n4 n3 n2' n1 s3 h1 hH hl1 np hm1
    generalize fx0 n hm l1 p q1 q2 q3 q4 q5 q6 x y kb = F0 at TI hwd S0 eF
    generalize adr p q1 q2 q3 q4 q5 q6 x y kb rl = ad0 at TI S0
    generalize dxr dx dy = dx0 at TI
    obtain ⟨e1, e2, e3, e4⟩ := eF
    subst e1 e2 e3 e4
    refine ⟨_, rfl, (F0.n : Int), rfl, by omega, by omega, ?_⟩
    refine for_range (lo := 0) (n := ((F0.n : Int)).toNat) (fun k σ H' => ∃ (a : Option V) (ad dx : Ro → Addr), σ = [some (.ref l), some (natV F0.n), some (.ref F0.home), some (.ref F0.nums), a, some (.ref F0.wd), none, none, none, none, none, none, none] ∧ Tg (bob K F0 k ad dx) ad B0 H' ∧ Spots F0 ad) ⟨_, ad0, dx0, rfl, TI, S0⟩ ?_ ?_
    · clear TI S0
      rintro k σ H4 hk ⟨a, ad, dx, rfl, T1, S⟩
      have hk5 : k < 5 := by omega
      have szr : ∀ {f : Nat → V}, (rng k f).length < sizeLine := fun {f} => by
        rw [rng_len]
        exact small1 (N := 5) (by omega) Wk.bl
      have cE := bob_calls (K := K) (F := F0) (k := k) (ad := ad) (dx := dx)
      have wdH : ∀ {ob : Ro → Option HO} {ad : Ro → Addr} {H : Hp}, Tg ob ad B0 H → H F0.wd = some (.dK (wdF F0)) := fun h => h.same _ _ hwd
      refine ⟨_, rfl, F0.wd, _, rfl, dg (wdH T1) "calls" wCalls, .inl ⟨rfl, _, SqL.of (T1.at2 bob_calls S.calls)⟩, fun x dxk nx ndx nxd => ⟨x, dxk, rfl, upd_same, fun H5 lS lH off nS nH d1 hS hHd hx => ⟨rfl, ?_⟩⟩⟩
      obtain ⟨sx, _, nS⟩ := none_made nS
      obtain ⟨hx', _, nH⟩ := none_made nH
      have s5 : Same H4 H5 := Same.made nx ndx fun b o e nb => off b o nb e
      have T2 := T1.new1 (.ph k) (T1.fr nx) s5 hx
      have T3 := T2.new1 (.sd k) ((T1.fr nS).new1 (.ph k) _ sx.symm) (Same.refl _) hS
      have T4 := T3.new1 (.hd k) (((T1.fr nH).new1 (.ph k) _ hx'.symm).new1 (.sd k) _ d1) (Same.refl _) hHd
      refine ⟨F0.calls, _, _, rfl, rfl, T4.at2 (r := .call 0) cE S.calls, szr, ?_⟩
      have T5 := T4.put2 (r := .call 0) (.lst (rng k (fun i => .ref (ad (.ph i))) ++ [.ref x])) cE S.calls
      clear T2 T3 T4
      have fls : ∀ {r : Ro} {ob : Ro → Option HO}, ob r = some (.lst (rng k fun _ => .bl false)) → ob r = some (.lst (rng k fun _ => .bl false)) := fun h => h
      refine ⟨_, rfl, F0.wd, _, rfl, dg (wdH T5) "linked" wLi, .inl ⟨rfl, _, SqL.of (T5.at2 (r := .li) (o := .lst (rng k fun _ => .bl false)) rfl S.li)⟩, F0.li, _, _, rfl, rfl, T5.at2 (r := .li) (o := .lst (rng k fun _ => .bl false)) rfl S.li, szr, ?_⟩
      have T6 := T5.put2 (r := .li) (.lst (rng k (fun _ => .bl false) ++ [.bl false])) rfl S.li
      clear T5
      refine ⟨_, rfl, F0.wd, _, rfl, dg (wdH T6) "released" wRe, .inl ⟨rfl, _, SqL.of (T6.at2 (r := .re) (o := .lst (rng k fun _ => .bl false)) rfl S.re)⟩, F0.re, _, _, rfl, rfl, T6.at2 (r := .re) (o := .lst (rng k fun _ => .bl false)) rfl S.re, szr, ?_⟩
      have T7 := T6.put2 (r := .re) (.lst (rng k (fun _ => .bl false) ++ [.bl false])) rfl S.re
      clear T6
      refine ⟨_, rfl, F0.wd, _, rfl, dg (wdH T7) "up" wUp, .inl ⟨rfl, _, SqL.of (T7.at2 (r := .up) (o := .lst (rng k fun i => .ref (ad (.upq i)))) rfl S.up)⟩, Wk.bl, fun qu nu => ?_⟩
      have T8 := T7.new1 (.upq k) (T7.fr nu) (same_upd (o := .lst []) nu) upd_same
      refine ⟨F0.up, _, _, rfl, rfl, T8.at2 (r := .up) (o := .lst (rng k fun i => .ref (ad (.upq i)))) rfl S.up, szr, ?_⟩
      have T9 := T8.put2 (r := .up) (.lst (rng k (fun i => .ref (ad (.upq i))) ++ [.ref qu])) rfl S.up
      clear T7 T8
      refine ⟨_, rfl, F0.wd, _, rfl, dg (wdH T9) "down" wDn, .inl ⟨rfl, _, SqL.of (T9.at2 (r := .dn) (o := .lst (rng k fun i => .ref (ad (.dnq i)))) rfl S.dn)⟩, Wk.bl, fun qd nd => ?_⟩
      have TA := T9.new1 (.dnq k) (T9.fr nd) (same_upd (o := .lst []) nd) upd_same
      refine ⟨F0.dn, _, _, rfl, rfl, TA.at2 (r := .dn) (o := .lst (rng k fun i => .ref (ad (.dnq i)))) rfl S.dn, szr, ?_⟩
      have TB := TA.put2 (r := .dn) (.lst (rng k (fun i => .ref (ad (.dnq i))) ++ [.ref qd])) rfl S.dn
      clear T9 TA
      refine ⟨_, rfl, F0.wd, _, rfl, dg (wdH TB) "paged" wPa, .inl ⟨rfl, _, SqL.of (TB.at2 (r := .pa) (o := .lst (rng k fun _ => .bl false)) rfl S.pa)⟩, F0.pa, _, _, rfl, rfl, TB.at2 (r := .pa) (o := .lst (rng k fun _ => .bl false)) rfl S.pa, szr, ?_⟩
      have TC := TB.put2 (r := .pa) (.lst (rng k (fun _ => .bl false) ++ [.bl false])) rfl S.pa
      clear TB
      have TD : Tg (chain K F0 k ad dx dxk x lS lH qu qd) (ad1 ad k x lS lH qu qd) B0 _ := TC
      exact ⟨_, ad1 ad k x lS lH qu qd, updA dx (.ph k) dxk, rfl, TD.congr fun r o e => ⟨by rw [← bob_next]; exact e, rfl⟩, S.next x lS lH qu qd⟩
    · rintro σ H4 ⟨a, ad, dx, rfl, T1, S⟩
      have ek : ((F0.n : Int)).toNat = F0.n := by omega
      rw [ek] at T1
      have T2 : Tg (bob K (fx1 F0 ad) F0.n ad dx) ad B0 H4 := T1.congr fun r o e => ⟨by cases r <;> exact e, rfl⟩
      obtain ⟨s1', s2', s3', s4', s5', s6', s7', s8', s9'⟩ := S
      obtain ⟨B1, sB, W1⟩ := bob_done (F := fx1 F0 ad) (n := F0.n) T2 ⟨s1', s2', s3', s4', s5', s6', s7', s8', s9'⟩ rfl n2 n5 hwd ⟨zs, h1B, hz⟩ hHB fun i => rfl
      have hlB1 := sB.seq hlB
      clear T1 T2 s1' s2' s3' s4' s5' s6' s7' s8' s9' TI S0 hwd h1B hHB hlB sB B0 hz ek
      have Gd := good0 (fx1 F0 ad).n
      have Lm := lim0 (fx1 F0 ad).n
      -- the moves
      have hlH : SqL K H4 l (ns.map V.int) := Exists.elim W1 fun _ u => u.same.seq hlB1
      refine ⟨_, rfl, _, rfl, _, _, rfl, rfl, mulL, _, _, rfl, rfl, _, rfl, _, rfl, l, _, rfl, hlH, fun q nq => ?_⟩
      obtain ⟨ms, ems, lms⟩ := cut_ints ns (some (2 * (F0.n : Int) + 1)) (some 63)
      obtain ⟨B2, s2, W2, h2⟩ := W1.imm nq (.lst (ms.map V.int))
      rw [ems]
      have hq2 := Exists.elim W2 fun _ u => u.same _ _ h2
      refine ⟨q, _, rfl, SqL.of hq2, ?_⟩
      refine for_it (walk_enum (xs := ms.map V.int)) (fun i σ H' => ∃ (x7 x8 x9 : Option V) (t : Int) (B : Hp) (m : M), σ = [some (.ref l), some (natV F0.n), some (.ref F0.home), some (.ref F0.nums), a, some (.ref F0.wd), some (.int t), x7, x8, x9, none, none, none] ∧ Same B2 B ∧ Mth.Good (fx1 F0 ad).n m ∧ Lim (fx1 F0 ad).n (600 * i) m ∧ Wd K (fx1 F0 ad) B m H')
        ⟨none, none, none, 0, B2, m0, rfl, Same.refl _, Gd, Lm, W2⟩ (fun i σ H' _ ⟨_, _, _, _, B, _, _, s, _, _, W⟩ => Exists.elim W fun _ u => SqL.of (u.same _ _ (s _ _ h2))) ?_ ?_
      · rintro i x σ H5 H6 hi ⟨x7, x8, x9, t, B, m, rfl, sB, G, L, W⟩ ⟨tt, y1, y2, rfl, ntt, rfl, e1, e2⟩
        obtain ⟨cv, rfl⟩ := int_at e2
        cases e1
        have hil : i < 63 := by
          have := (List.getElem?_eq_some_iff.mp e2).1
          rw [List.length_map] at this
          omega
        have W6 := Wd.grow W (same_upd (o := .tup [.int (i : Nat), .int cv]) ntt)
        refine ⟨tt, _, rfl, SqT.of upd_same, rfl, _, _, rfl, _, _, rfl, rfl, ?_⟩
        refine ⟨_, rfl, _, rfl, _, _, rfl, fun r => ?_⟩
        refine ⟨_, rfl, _, rfl, _, _, rfl, rfl, cmd, _, _, rfl, rfl, ?_⟩
        refine ⟨_, rfl, _, rfl, _, _, rfl, rfl, Wk.cdv, _, rfl, fx1 F0 ad, B, m, _, _, 600 * i, rfl, W6, G, L, by omega, fun B7 H7 m7 s7 G7 L7 W7 => ?_⟩
        refine ⟨_, rfl, fx1 F0 ad, B7, m7, false, rfl, W7, G7, (fun z => nomatch z), fun H8 s8 => ?_⟩
        exact ⟨_, rfl, iF ⟨_, _, _, _, B7, m7, rfl, sB.trans s7, G7, L7.mono (by omega), Wd.grow W7 s8⟩⟩
      · rintro σ H5 ⟨x7, x8, x9, t, B, m, rfl, sB, G, L, W⟩
        have L1 : Lim (fx1 F0 ad).n 37800 m := L.mono (by rw [List.length_map]; omega)
        clear L
        refine ⟨300, rfl, by decide, by decide, ?_⟩
        refine for_range (lo := 0) (n := 300) (fun j σ H' => ∃ (x4 x10 : Option V) (B : Hp) (m : M), σ = [some (.ref l), some (natV F0.n), some (.ref F0.home), some (.ref F0.nums), x4, some (.ref F0.wd), some (.int t), x7, x8, x9, x10, none, none] ∧ Same B2 B ∧ Mth.Good (fx1 F0 ad).n m ∧ Lim (fx1 F0 ad).n (37800 + 640 * j) m ∧ Wd K (fx1 F0 ad) B m H')
          ⟨_, _, B, m, rfl, sB, G, L1, W⟩ ?_ ?_
        · clear L1 G W sB m B
          rintro j σ H6 hj ⟨x4, x10, B, m, rfl, sB, G, L, W⟩
          refine ⟨_, rfl, (F0.n : Int), rfl, by omega, by omega, ?_⟩
          refine for_range (lo := 0) (n := ((F0.n : Int)).toNat) (fun k σ H' => ∃ (x10 : Option V) (B : Hp) (m : M), σ = [some (.ref l), some (natV F0.n), some (.ref F0.home), some (.ref F0.nums), some (V.int (0 + (j : Int))), some (.ref F0.wd), some (.int t), x7, x8, x9, x10, none, none] ∧ Same B2 B ∧ Mth.Good (fx1 F0 ad).n m ∧ Lim (fx1 F0 ad).n (37800 + 640 * j + 128 * k) m ∧ Wd K (fx1 F0 ad) B m H')
            ⟨x10, B, m, rfl, sB, G, L, W⟩ ?_ ?_
          · clear L G W sB m B
            rintro k σ H7 hk ⟨x10, B, m, rfl, sB, G, L, W⟩
            have e0 : (V.int (0 + (k : Int))) = natV k := by
              show V.int _ = V.int _
              rw [Int.zero_add]
            rw [e0]
            have hp : k < (fx1 F0 ad).n := by
              show k < F0.n
              omega
            refine ⟨_, rfl, _, rfl, _, rfl, fx1 F0 ad, B, m, k, t, _, rfl, W, G, hp, L, by omega, fun B8 H8 m8 s8 G8 L8 W8 => ?_⟩
            refine ⟨_, rfl, _, rfl, fx1 F0 ad, B8, m8, k, _, rfl, W8, G8, hp, L8, by omega, fun B9 H9 m9 s9 G9 L9 W9 => ?_⟩
            exact ⟨_, B9, m9, rfl, (sB.trans s8).trans s9, G9, L9.mono (by omega), W9⟩
          · rintro σ H7 ⟨x10, B, m, rfl, sB, G, L, W⟩
            exact ⟨_, _, B, m, rfl, sB, G, L.mono (by omega), W⟩
        · clear L1 G W sB m B
          rintro σ H6 ⟨x4, x10, B, m, rfl, sB, G, L, W⟩
          refine ⟨_, rfl, (F0.n : Int), rfl, by omega, by omega, fun D nD => ?_⟩
          have sD := same_upd (o := .lst []) nD
          refine lc_range (lo := 0) (n := ((F0.n : Int)).toNat) (fun i H' => Same H6 H' ∧ ∃ ls : List Nat, ls.length ≤ i ∧ H' D = some (.lst (ls.map natV)) ∧ (ls = [] → ∀ j, j < i → (m.pd j).up = [] ∧ (m.pd j).dn = [])) ⟨sD, [], Nat.le_refl _, upd_same, fun _ j h => absurd h (Nat.not_lt_zero j)⟩ ?_ ?_
          · rintro i H7 hi ⟨s7, ls, hls, h7, hno⟩
            have e0 : (V.int (0 + (i : Int))) = natV i := by
              show V.int _ = V.int _
              rw [Int.zero_add]
            rw [e0]
            refine ⟨rfl, ?_⟩
            have hp : i < (fx1 F0 ad).n := by
              show i < F0.n
              omega
            obtain ⟨L0, U⟩ := W
            have U7 := U.grow s7
            have nilU : L0.upA i = [] → (m.pd i).up = [] := fun z => by
              have := all2_len (U.fine i hp).up
              rw [z] at this
              exact List.eq_nil_of_length_eq_zero this.symm
            have nilD : L0.dnA i = [] → (m.pd i).dn = [] := fun z => by
              have := all2_len (U.fine i hp).dn
              rw [z] at this
              exact List.eq_nil_of_length_eq_zero this.symm
            have yes : ∀ {H8 : Hp}, Same H7 H8 → ∃ acc, H8 D = some (.lst acc) ∧ acc.length < sizeLine ∧ Same H6 (upd H8 D (.lst (acc ++ [natV i]))) ∧ ∃ ls : List Nat, ls.length ≤ i + 1 ∧ upd H8 D (.lst (acc ++ [natV i])) D = some (.lst (ls.map natV)) ∧ (ls = [] → ∀ j, j < i + 1 → (m.pd j).up = [] ∧ (m.pd j).dn = []) := fun {H8} s8 => by
              refine ⟨_, s8 _ _ h7, ?_, fun b o e => ?_, ls ++ [i], ?_, ?_, fun z => ?_⟩
              · rw [List.length_map]
                exact small1 (N := 5) (by omega) Wk.bl
              · rw [upd_ne (ne_of_none e nD)]
                exact s8 _ _ (s7 _ _ e)
              · rw [List.length_append]
                exact Nat.succ_le_succ hls
              · rw [upd_same, List.map_append]
                rfl
              · exact absurd z (by simp)
            refine ⟨_, rfl, F0.wd, _, rfl, dg U7.atWd "up" wUp, _, rfl, F0.up, _, _, _, rfl, rfl, SqL.of U7.atUp, rng_at hp, Wk.bl, fun e ne => ?_⟩
            have sE := same_upd (o := .lst []) ne
            have U8 := U7.grow sE
            refine neF (U8.atUpq hp) upd_same (fun zu => ?_) fun _ => ⟨_, rfl, ⟨_, rfl, yes sE⟩⟩
            refine ⟨_, rfl, ?_⟩
            refine ⟨_, rfl, F0.wd, _, rfl, dg U8.atWd "down" wDn, _, rfl, F0.dn, _, _, _, rfl, rfl, SqL.of U8.atDn, rng_at hp, Wk.bl, fun e2 ne2 => ?_⟩
            have sE2 := sE.trans (same_upd (o := .lst []) ne2)
            have U9 := U7.grow sE2
            refine neF (U9.atDnq hp) upd_same (fun zd => ?_) fun _ => ⟨_, rfl, ⟨_, rfl, yes sE2⟩⟩
            refine ⟨_, rfl, iF ⟨s7.trans sE2, ls, by omega, sE2 _ _ h7, fun z j hj => ?_⟩⟩
            by_cases zj : j = i
            · rw [zj]
              exact ⟨nilU zu, nilD zd⟩
            · exact hno z j (by omega)
          · rintro H7 ⟨s7, ls, hls, h7, hno⟩
            have W7 := Wd.grow W s7
            refine ⟨_, rfl, _, rfl, Wk.bl, fun e ne => ?_⟩
            have sE := same_upd (o := .lst []) ne
            have W8 := Wd.grow W7 sE
            have fin : ∀ b : Bool, (b = true → ls = []) → spOrd K [.ref F0.wd, .bl b] (upd H7 e (.lst [])) (fun v H' => Q v H') E0 := fun b hb =>
              ⟨fx1 F0 ad, B, m, b, rfl, W8, G, fun z i hi => hno (hb z) i (by have hi : i < F0.n := hi; omega), fun H9 _ => go H9⟩
            refine ⟨D, e, _, [], rfl, rfl, SqL.of (sE _ _ h7), SqL.of upd_same, ?_⟩
            cases ls with
            | nil => exact .inl ⟨rfl, fun v hv => (nomatch hv), fin true fun _ => rfl⟩
            | cons a as => exact .inr ⟨by simp, fin false fun z => nomatch z⟩
end
end Wk
end
section
set_option Elab.async false
set_option linter.all false
set_option maxRecDepth 100000
/-! What is looked at behind the top. -/
namespace Ed
open PySem PySem.Spec L2 He Tx PyProof.Rows Wk
/-! ### NEXT -/
def rows3 : List (Str × Str × Str) := [("starting", "proceeding", "looking"), ("looking", "alerting", "alerting"), ("looking", "connect", "active"), ("alerting", "connect", "active"), ("idle", "setup", "ringing")]
def pairB (K : PySem.W.Frag) (x y : Str) (v : Value) : Bool := match v with
  | .ref a => (match K.lookup a with
    | some ⟨.type c, _, .seq its _, _⟩ => decide (c = "tuple") && (match its.toList with
      | [.str x' _, .str y' _] => decide (x' = x) && decide (y' = y)
      | _ => false)
    | _ => false)
  | _ => false
theorem pairB_ok {K : PySem.W.Frag} {x y : Str} {v : Value} (h : pairB K x y v = true) : ∃ a o items n t u, v = .ref a ∧ K.lookup a = some o ∧ o.cls = .type "tuple" ∧ o.data = .seq items n ∧ items.toList = [.str x t, .str y u] := by
  unfold pairB at h
  split at h
  · rename_i a
    split at h
    · rename_i c d its n sl ho
      obtain ⟨h1, h2⟩ := Bool.and_eq_true_iff.mp h
      split at h2
      · rename_i x' t y' u hi
        obtain ⟨h3, h4⟩ := Bool.and_eq_true_iff.mp h2
        refine ⟨a, _, its, n, t, u, rfl, ho, congrArg Value.type (of_decide_eq_true h1), rfl, ?_⟩
        rw [hi, of_decide_eq_true h3, of_decide_eq_true h4]
      · cases h2
    · cases h
  · cases h
def strB (z : Str) (v : Value) : Bool := match v with
  | .str y _ => decide (y = z)
  | _ => false
theorem strB_ok {z : Str} {v : Value} (h : strB z v = true) : ∃ t, v = .str z t := by
  unfold strB at h
  split at h
  · rename_i y t
    exact ⟨t, by rw [of_decide_eq_true h]⟩
  · cases h
def entsB (K : PySem.W.Frag) : List (Str × Str × Str) → List DictEntry → Bool
  | [], [] => true
  | q :: qs, e :: es => (pairB K q.1 q.2.1 e.key && strB q.2.2 e.val) && entsB K qs es
  | _, _ => false
abbrev kd (P : Program) (w : World) : HeapKind P w (List Key) := tupleKind (mixKind P w)
def k3 (q : Str × Str × Str) : List Key := [.inr q.1, .inr q.2.1]
theorem ents_ok {P : Program} {w : World} {K : PySem.W.Frag} : ∀ {qs : List (Str × Str × Str)} {es : List DictEntry}, entsB K qs es = true → es.map (·.hash) = qs.map (fun q => (kd P w).hash (k3 q)) →
    ∃ xs : List (List Key × Addr × Value), es = xs.map (entryOfKey (kd P w)) ∧ (∀ h : Heap, K.In h → ∀ x ∈ xs, (kd P w).is h x.1 x.2.1) ∧ xs.map (·.1) = qs.map k3 ∧ Paired (fun (p : List Key × V) (q : List Key × Addr × Value) => p.1 = q.1 ∧ RelV p.2 q.2.2) (qs.map fun q => (k3 q, V.str q.2.2)) xs
  | [], [], _, _ => ⟨[], rfl, fun h _ x hx => (nomatch hx), rfl, .nil⟩
  | q :: qs, e :: es, h, hh => by
    have h' : ((pairB K q.1 q.2.1 e.key && strB q.2.2 e.val) && entsB K qs es) = true := h
    obtain ⟨h1, h2⟩ := Bool.and_eq_true_iff.mp h'
    obtain ⟨h3, h4⟩ := Bool.and_eq_true_iff.mp h1
    rw [List.map_cons, List.map_cons] at hh
    injection hh with hh1 hh2
    obtain ⟨xs, e1, e2, e3, e4⟩ := ents_ok h2 hh2
    obtain ⟨a, o, items, n, t, u, ek, lo, oc, od, oi⟩ := pairB_ok h3
    obtain ⟨tz, ez⟩ := strB_ok h4
    obtain ⟨ehash, ekey, eval⟩ := e
    dsimp only at ek ez hh1
    subst ek ez hh1
    refine ⟨(k3 q, a, .str q.2.2 tz) :: xs, by rw [e1]; rfl, fun hp X x hx => ?_, by rw [List.map_cons, List.map_cons, e3], .cons ⟨rfl, tz, rfl⟩ e4⟩
    rcases List.mem_cons.mp hx with rfl | hx
    · refine ⟨o, items, n, X _ _ lo, oc, od, ?_⟩
      rw [oi]
      exact .cons (keyIs_str _ t) (.cons (keyIs_str _ u) .nil)
    · exact e2 hp X x hx
  | [], _ :: _, h, _ => nomatch h
  | _ :: _, [], h, _ => nomatch h
def nextN (K : PySem.W.Frag) (d : Addr) : Option (List Int) := match K.lookup d with
  | some ⟨.type c, none, .dict es _, sl⟩ => (match (decide (c = "dict") && (sl.isEmpty && !(d == sysModules))) && entsB K rows3 es.toList with
    | true => some (es.toList.map (·.hash))
    | false => none)
  | _ => none
theorem nextN_ok {P : Program} {w : World} {K : PySem.W.Frag} {d : Addr} (h : nextN K d = some (rows3.map fun q => (kd P w).hash (k3 q))) : NextIn P w K d := by
  unfold nextN at h
  split at h
  · rename_i c es ep sl ho
    split at h
    · rename_i hb
      obtain ⟨h1, h2⟩ := Bool.and_eq_true_iff.mp hb
      obtain ⟨h3, h4⟩ := Bool.and_eq_true_iff.mp h1
      obtain ⟨h5, h6⟩ := Bool.and_eq_true_iff.mp h4
      obtain ⟨xs, e1, e2, e3, e4⟩ := ents_ok (P := P) (w := w) h2 (Option.some.inj h)
      have ec : c = "dict" := of_decide_eq_true h3
      have es' : sl = #[] := Array.isEmpty_iff.mp h5
      subst ec es'
      refine ⟨by simpa using h6, xs, fun hp X => ⟨_, es, ep, X _ _ ho, ⟨rfl, rfl, rfl⟩, rfl, e1, fun x hx => e2 hp X x hx, ?_⟩, e4⟩
      rw [e3]
      decide +kernel
    · cases h
  · cases h
/-! ### a property -/
def propB (K : PySem.W.Frag) (C : Addr) (f : Str) : Bool := eqO (PySem.W.findIn K (.ref C) f) (some (some (.ref (ma K C f)))) && (eqO (PySem.W.specialIn K (.ref (ma K C f)) "__get__") (some (some (.builtin "property.__get__"))) &&
  (decide (PySem.W.takesIn K (.ref (ma K C f)) = some true) && (match PySem.W.recIn K (ma K C f) "property" with
    | some (.ref _ :: _) => true
    | _ => false)))
theorem propB_ok {K : PySem.W.Frag} {f : Str} (h : propB K (ga K "PhoneCall") f = true) : PropOf K (ga K "PhoneCall") f (ma K (ga K "PhoneCall") f) (gAd K f) := by
  obtain ⟨h1, h⟩ := Bool.and_eq_true_iff.mp h
  obtain ⟨h2, h⟩ := Bool.and_eq_true_iff.mp h
  obtain ⟨h3, h4⟩ := Bool.and_eq_true_iff.mp h
  refine ⟨eqO_ok h1, eqO_ok h2, of_decide_eq_true h3, ?_⟩
  unfold gAd
  split at h4
  · rename_i g r e
    rw [e]
    exact ⟨r, rfl⟩
  · cases h4
/-! ### an own exception's class -/
def clsB (C : Addr) (o : Obj) : Bool := match o with
  | ⟨.type c, _, .cls cd, sl⟩ => (decide (c = "type") && (cd.hasDict && !cd.hasDel)) && ((match cd.mro with
    | .ref b :: bm => decide (b = C) && PySem.HandSPX.refsVE bm
    | _ => false) && (match sl.toList with
    | [_, _, _, _, some (.builtin id), _] => decide (id = "ValueError.__new__")
    | _ => false))
  | _ => false
theorem clsB_ok {C : Addr} {o : Obj} (h : clsB C o = true) : ∃ nm q N bs bm sn sub ab col dd k0 k1 k2 k3 k5, o = excClassObj nm q C N bs bm true sn sub ab col dd k0 k1 k2 k3 k5 "ValueError.__new__" ∧ PySem.HandSPX.refsVE bm = true := by
  unfold clsB at h
  split at h
  · rename_i c dd cd sl
    obtain ⟨h1, h2⟩ := Bool.and_eq_true_iff.mp h
    obtain ⟨h3, h4⟩ := Bool.and_eq_true_iff.mp h1
    obtain ⟨h5, h6⟩ := Bool.and_eq_true_iff.mp h4
    obtain ⟨h7, h8⟩ := Bool.and_eq_true_iff.mp h2
    obtain ⟨nm, bs, mro, N, q, hd, sn, sub, ab, col, hdel⟩ := cd
    dsimp only at h5 h6 h7
    have ec : c = "type" := of_decide_eq_true h3
    have e6 : hdel = false := by simpa using h6
    subst ec h5 e6
    split at h7
    · rename_i b bm
      obtain ⟨h9, h10⟩ := Bool.and_eq_true_iff.mp h7
      have eb : b = C := of_decide_eq_true h9
      subst eb
      split at h8
      · rename_i k0 k1 k2 k3 id k5 hs
        have ei : id = "ValueError.__new__" := of_decide_eq_true h8
        subst ei
        have es : sl = #[k0, k1, k2, k3, some (.builtin "ValueError.__new__"), k5] := by
          rw [← hs]
        exact ⟨nm, q, N, bs, bm, sn, sub, ab, col, dd, k0, k1, k2, k3, k5, by rw [es], h10⟩
      · cases h8
    · cases h7
  · cases h
def oexB (K : PySem.W.Frag) (C : Addr) : Bool := (match K.lookup C with
  | some o => clsB C o
  | none => false) && (eqO (PySem.W.findIn K (.ref C) "__setattr__") (some (some (.builtin "object.__setattr__"))) && (decide (PySem.W.subIn K (.ref C) (.type "BaseException") = some true) && (decide (PySem.W.typeIn K (.ref C) = some (.type "type")) && PySem.W.keepIn K (.ref C))))
theorem oexB_ok {K : PySem.W.Frag} {C : Addr} (h : oexB K C = true) : OexC K C := by
  obtain ⟨h1, h⟩ := Bool.and_eq_true_iff.mp h
  obtain ⟨h2, h⟩ := Bool.and_eq_true_iff.mp h
  obtain ⟨h3, h⟩ := Bool.and_eq_true_iff.mp h
  obtain ⟨h4, h5⟩ := Bool.and_eq_true_iff.mp h
  split at h1
  · rename_i o ho
    obtain ⟨nm, q, N, bs, bm, sn, sub, ab, col, dd, k0, k1, k2, k3, k5, e, r⟩ := clsB_ok h1
    exact ⟨⟨nm, q, N, bs, bm, sn, sub, ab, col, dd, k0, k1, k2, k3, k5, by rw [ho, e], r⟩, eqO_ok h2, of_decide_eq_true h3, of_decide_eq_true h4, h5⟩
  · cases h1
/-! ### a function at an address -/
def bare (f : FuncData) : FuncData := { f with kwdefaults := .none, doc := .none, pyModule := .none, annotations := none, code := .none, closureTuple := .none }
def bareAt (K : PySem.W.Frag) (a : Addr) : Option FuncData := match K.lookup a with
  | some ⟨_, _, .func fd, _⟩ => some (bare fd)
  | _ => none
def fnB (K : PySem.W.Frag) (a : Addr) (q : Str) : Bool := PySem.W.keepIn K (.ref a) && (match K.lookup a with
  | some ⟨_, _, .func fd, _⟩ => PySem.W.codeIn K fd.code q
  | _ => false)
def want (x q : Str) (st : Stmt) : FuncData := PySem.W.fnOf x q (defArgs st) (defBody st) (defScope st) .none .none .none .none none .none .none
theorem fn_at {K : PySem.W.Frag} {a : Addr} {x q : Str} {st : Stmt} (h : fnB K a q = true) (e : bareAt K a = some (want x q st)) : ∃ fd, FnP K x q st a fd := by
  obtain ⟨h1, h2⟩ := Bool.and_eq_true_iff.mp h
  split at h2
  · rename_i oc od fd osl ho
    unfold bareAt at e
    rw [ho] at e
    have e := Option.some.inj e
    obtain ⟨n1, n2, n3, n4, n5, n6, n7, n8, n9, n10, n11, n12, n13, n14, n15⟩ := fd
    unfold bare want at e
    dsimp only at e h2
    injection e with g1 g2 g3 g4 g5 g6 g7 g8 g9 g10 g11 g12 g13 g14 g15
    subst g1 g2 g3 g4 g5 g6 g7 g8 g15
    exact ⟨_, ⟨oc, od, _, n9, n10, n11, n12, n13, n14, osl, rfl, ho, h2, .inl ⟨rfl, rfl⟩, .inl rfl⟩, h1⟩
  · cases h2
/-! ### all of it -/
def keysD (o : Obj) : List Addr := match o.data with
  | .dict es _ => es.toList.flatMap fun e => refV e.key
  | _ => []
def asZ (g : Addr → Option Obj) : List Addr := asD g 5 ++ (asD g 1).flatMap fun a => match g a with
  | some o => keysD o
  | none => []
def exB (K : PySem.W.Frag) : Bool := ((propB K (ga K "PhoneCall") "state" && fnB K (gAd K "state") "PhoneCall.state") && ((propB K (ga K "PhoneCall") "said" && fnB K (gAd K "said") "PhoneCall.said") && (propB K (ga K "PhoneCall") "heard" && fnB K (gAd K "heard") "PhoneCall.heard"))) &&
  ((oexB K (ga K "NotNow") && fnB K (ma K (ga K "NotNow") "__init__") "NotNow.__init__") && (eqO (PySem.W.findIn K (.ref (ga K "NotNow")) "__init__") (some (some (.ref (ma K (ga K "NotNow") "__init__")))) &&
  (decide (PySem.W.typeIn K (.ref (ma K (ga K "NotNow") "__init__")) = some (.type "function")) && eqO (PySem.W.findIn K (.ref (ga K "NotNow")) "what") (some none))))
abbrev Z : Type := AlD × Bool × Option (List Int) × List (Option FuncData)
def obsK (K : PySem.W.Frag) : Z := (obsD fa fn K, exB K, nextN K (ga K "NEXT"), [bareAt K (gAd K "state"), bareAt K (gAd K "said"), bareAt K (gAd K "heard"), bareAt K (ma K (ga K "NotNow") "__init__")])
def obsZ (g : Addr → Option Obj) : Z := obsK (frG g (asZ g))
def valZ (P : Program) (w : World) : Z := (valD fn, true, some (rows3.map fun q => (kd P w).hash (k3 q)), [some (want "state" "PhoneCall.state" s_PhoneCall_state), some (want "said" "PhoneCall.said" s_PhoneCall_said), some (want "heard" "PhoneCall.heard" s_PhoneCall_heard), some (want "__init__" "NotNow.__init__" s_NotNow_init)])
theorem txt_of {P : Program} {w : World} {K : PySem.W.Frag} {h : Heap} {mg : Str → Option Value} (X : K.In h) (G : h.Ns mainGlobals mg) (e : obsK K = valZ P w) : Txt K mg ∧ NextIn P w K (ga K "NEXT") := by
  have e1 : obsD fa fn K = valD fn := congrArg (fun z : Z => z.1) e
  have e2 : exB K = true := congrArg (fun z : Z => z.2.1) e
  have e3 : nextN K (ga K "NEXT") = some (rows3.map fun q => (kd P w).hash (k3 q)) := congrArg (fun z : Z => z.2.2.1) e
  have e4 := congrArg (fun z : Z => z.2.2.2) e
  have e4 : [bareAt K (gAd K "state"), bareAt K (gAd K "said"), bareAt K (gAd K "heard"), bareAt K (ma K (ga K "NotNow") "__init__")] = [some (want "state" "PhoneCall.state" s_PhoneCall_state), some (want "said" "PhoneCall.said" s_PhoneCall_said), some (want "heard" "PhoneCall.heard" s_PhoneCall_heard), some (want "__init__" "NotNow.__init__" s_NotNow_init)] := e4
  injection e4 with f1 e4
  injection e4 with f2 e4
  injection e4 with f3 e4
  injection e4 with f4 _
  obtain ⟨p1, p2⟩ := Bool.and_eq_true_iff.mp e2
  obtain ⟨q1, q2⟩ := Bool.and_eq_true_iff.mp p1
  obtain ⟨a1, a2⟩ := Bool.and_eq_true_iff.mp q1
  obtain ⟨q3, q4⟩ := Bool.and_eq_true_iff.mp q2
  obtain ⟨b1, b2⟩ := Bool.and_eq_true_iff.mp q3
  obtain ⟨c1, c2⟩ := Bool.and_eq_true_iff.mp q4
  obtain ⟨r1, r2⟩ := Bool.and_eq_true_iff.mp p2
  obtain ⟨d1, d2⟩ := Bool.and_eq_true_iff.mp r1
  obtain ⟨d3, r3⟩ := Bool.and_eq_true_iff.mp r2
  obtain ⟨d4, d5⟩ := Bool.and_eq_true_iff.mp r3
  exact ⟨⟨e1, ⟨h, X, G⟩, propB_ok a1, propB_ok b1, propB_ok c1, fn_at a2 f1, fn_at b2 f2, fn_at c2 f3, fn_at d2 f4, oexB_ok d1, eqO_ok d3, of_decide_eq_true d4, eqO_ok d5⟩, nextN_ok e3⟩
end Ed
end
section
set_option Elab.async false
set_option linter.all false
set_option maxRecDepth 100000
set_option maxHeartbeats 0
/-! The kernel's equation of the whole top. -/
noncomputable section
namespace Ed
open PySem PySem.W PySem.Calls PyProof.Rows HandSHeadRun HdR HdC HdB HdD
abbrev R : PySem.W.OpenRow := PySem.W.OpenLaw.row PySem.Challenge.rw_mobileair_k70_whole_words_in_order
def names : List PySem.Str := ["_wall", "MobileError", "NoSuch", "NotNow", "Book", "RING", "HOPS", "rule_for", "find_goal", "Call", "refuse", "Switch", "Person", "Home", "NEXT", "PhoneCall", "_law_mixed", "_law_cell", "_law_number", "_law_pick", "_law_home", "_law_linked", "_law_link", "_law_unlink", "_law_perform", "_law_up", "_law_down", "_law_user", "_law_options", "_law_move", "_law_ordered"]
abbrev qV : Program := view R.prog [38]
theorem end_val (w : World) (os : OsState) (q : Pos) : (endX w os q).map (fun s => (looksF P (boot_heap w.params) s.abs, seenQ qV names (importedModules P.main.body) (fun s => xlAt qV [] s && recOk R.toRowW.records s) s.abs, obsZ (getT s))) = some (true, openGood qV names, valZ P w) := by
  kernel_rfl
end Ed
end
end
section
set_option Elab.async false
set_option linter.all false
set_option maxRecDepth 100000
set_option maxHeartbeats 0
/-! The end, first half. -/
noncomputable section
namespace Ed
open PySem PySem.W PySem.Calls PyProof.Rows HandSHeadRun HdR HdC HdB HdD
def YZ (w : World) (h : Heap) : Prop := ∃ K : Frag, K.In h ∧ obsK K = valZ P w
theorem yz_keeps (w : World) (h h' : Heap) (y : YZ w h) (k : ∀ b o, h.get? b = some o → h'.get? b = some o) : YZ w h' := by
  obtain ⟨K, X, e⟩ := y
  exact ⟨K, Frag.In.keeps X k, e⟩
theorem b1 : opening R.prog = plainProg R.prog.main.scope.names := by kernel_rfl
theorem b2 (s : Shared) : fenceModules? R.prog s = some s := by kernel_rfl
theorem b3 : chainsOk qV = true := by kernel_rfl
theorem run1 (w : World) (os : OsState) (hz : (⟨boot_heap w.params, #[], boot_drawn, boot_toks, os⟩ : Shared).asleep) : ∃ s1 : Shared, Thr P w 11 (bootAnn w) ⟨boot_heap w.params, #[], boot_drawn, boot_toks, os⟩ (topStub P) s1 ∧ looksF P (boot_heap w.params) s1 = true ∧ openSeen qV names (importedModules P.main.body) (fun s => xlAt qV [] s && recOk R.toRowW.records s) true s1 = openGood qV names ∧ YZ w s1.heap := by
  obtain ⟨s1, e, th⟩ := top_all (F := fun s => (looksF P (boot_heap w.params) s.abs, seenQ qV names (importedModules P.main.body) (fun s => xlAt qV [] s && recOk R.toRowW.records s) s.abs, obsZ (getT s))) (end_val w os) hz
  have e1 : looksF P (boot_heap w.params) s1.abs = true := congrArg (·.1) e
  have e2 : seenQ qV names (importedModules P.main.body) (fun s => xlAt qV [] s && recOk R.toRowW.records s) s1.abs = openGood qV names := congrArg (·.2.1) e
  have e3 : obsZ (getT s1) = valZ P w := congrArg (·.2.2) e
  rw [← seenQ_eq] at e2
  rw [show getT s1 = s1.abs.heap.get? from funext fun a => getT_eq s1 a] at e3
  exact ⟨s1.abs, th, e1, e2, _, He.frG_in, e3⟩
theorem behind (w : World) : Behind P qV names (fun mg h => XL qV [] mg h ∧ RecFacts R.records h) YZ w :=
  Behind.of_run (Xt := fun s => xlAt qV [] s && recOk R.toRowW.records s) (n0 := 11) b1 b2 (boot_size w) (fun s z => ⟨xl_of s (Bool.and_eq_true_iff.mp z).1, recFacts_of (Bool.and_eq_true_iff.mp z).2⟩) b3 (run1 w)
theorem behindR : ∀ w, Behind R.prog qV names (fun mg h => XL qV [] mg h ∧ RecFacts R.records h) YZ w := behind
abbrev dL : DefRec := HandSHeadRun.topDef R.prog 38
theorem c1 : defOf qV R.name = some (dL, []) := by kernel_rfl
theorem c2 : R.prog.theDef R.name = some (dL.params, dL.body, dL.scope) := by kernel_rfl
theorem c3 : kwWritten? dL.params.kwonlyargs dL.params.kw_defaults = some [] := by kernel_rfl
theorem c4 : (!R.writes || R.records.isEmpty) = true := by rfl
theorem c6 : (opensWell R.prog && (frees R.toRowW && R.within.isEmpty)) = true := by decide +kernel
theorem c7 : R.prog.bare := ⟨rfl, rfl, rfl, rfl, rfl, by decide +kernel⟩
theorem c8 : dL.name = ("law" : PySem.Str) := by kernel_rfl
theorem c9 : dL.params.defaults = [] := by kernel_rfl
end Ed
end
end
set_option Elab.async false
set_option linter.all false
set_option maxRecDepth 100000
set_option maxHeartbeats 4000000
open PySem PySem.W PySem.Calls PyProof.Rows
noncomputable section
namespace Ed
theorem d1 (w : World) (mg : PySem.Str → Option Value) (fa : Addr) (h : Heap) (Y : YZ w h) (G : h.Ns mainGlobals mg) (hmg0 : mg dL.name = some (.ref fa)) :
    ∃ (K : Frag) (fd : FuncData) (sp : L2.Sp), K.In h ∧ (∀ (s : Shared) (u : Value), BindsTo s fd ⟨[u], []⟩ [("_law_script", u)]) ∧
      (∀ (H : L2.Hp) (a : Addr) (ns : List Int), ns.length ≤ 63 → L2.Only H → L2.SqL K H a (ns.map L2.V.int) → sp [.ref a] H (fun v _ => v = .bl true) fun _ _ _ => False) ∧
        ∀ base : Heap, K.In base → base.Ns mainGlobals mg → L2.FnOk HdC.P w K mg base L2.CX0 8 fa fd ["_law_script"] sp := by
  obtain ⟨K, KX, c⟩ := Y
  obtain ⟨T, N⟩ := txt_of KX G c
  rw [c8] at hmg0
  have efa : fa = He.ga K "law" := by
    have := (Tx.mg_law T).symm.trans hmg0
    injection this with this
    injection this with this
    exact this.symm
  subst efa
  obtain ⟨fd, Fn⟩ := Tx.fd_law T
  have b := L2.FunD.bindsA (ps := ["_law_script"]) Fn fun _ _ _ _ _ _ us hl => match us, hl with | [_], _ => rfl
  exact ⟨K, fd, Wk.spLaw K, KX, fun s v => b s [v] rfl, fun H a ns hl _ hS => ⟨a, ns, rfl, hS, hl, fun _ => rfl⟩, fun base _ _ => Wk.ok_law N T Fn⟩
end Ed
end
theorem PySem.Challenge.cw_mobileair_k70_whole_words_in_order_holds : PySem.Challenge.rw_mobileair_k70_whole_words_in_order.Holds := by
  w_on; o_law
  refine HdD.law_of (r := Ed.R) (q := Ed.qV) (loose := Ed.names) (XP := XL Ed.qV []) (YP := Ed.YZ) (d := Ed.dL) (kwd := []) Ed.behindR Ed.yz_keeps XL.keeps
    Ed.c1 Ed.c2 Ed.c3 Ed.c4 ?k1 Ed.c6 Ed.c7 ?hw ?hc
  case k1 => assumption
  case hw => w_witness2
  case hc => exact L2.walk_ofE (l := PySem.Challenge.rw_mobileair_k70_whole_words_in_order) (n := 63) (k := 8) (x := "_law_script") (CX := L2.CX0) rfl (by decide) Ed.c9 ⟨rfl, by decide, by decide⟩ Ed.d1 (fun _ _ _ _ z => z)
