/- Regions: the run in the text's order, and its trace. -/
import Derived.Test.YtdgipcjigbagfaaGreatFwP
namespace Go.Proofs.YtdgipcjigbagfaaGreat.AB
set_option linter.unusedSimpArgs false
set_option linter.unusedVariables false
variable {P : Program} {ti : Nat → TyI}

theorem constA_rel (φ : Map) (v : Value) : VRel φ (constA v) v := by
  unfold constA
  split <;> simp [VRel]

theorem evalA_rel {φ : Map} {tm : List (Nat × AVal)} {a : Act} (h : ∀ t, VRel φ (getT tm t) (a.tmps.getD t undef)) (x : Operand) : VRel φ (evalA tm x) (a.eval x) := by
  cases x with
  | tmp t => exact h t
  | const v => exact constA_rel φ v
  | global g => simp [evalA, VRel]
  | func f => simp only [evalA, Act.eval, VRel, VRels]; exact ⟨[], rfl, rfl⟩

structure StRel (B : Base) (nt : Nat) (st : St) (a : Act) (w : World) : Prop where
  mem : ∃ φ ψ, GI B φ ψ (getB st.σ) w ∧ (∀ b, φ b ≠ none → b < st.σ.length) ∧ ∀ t, VRel φ (getT st.tm t) (a.tmps.getD t undef)
  size : a.tmps.size = nt
  defers : a.defers = []
  len : B.m ≤ st.σ.length

theorem put_getD {a : Act} {dst : Option Nat} {v : Value} (h : ∀ d, dst = some d → d < a.tmps.size) (t : Nat) : (a.put dst v).tmps.getD t undef = if dst = some t then v else a.tmps.getD t undef := by
  cases dst with
  | none => simp [Act.put]
  | some d =>
    have hd := h d rfl
    simp only [Act.put, Option.some.injEq]
    by_cases e : d = t
    · subst e
      simp [Array.getD_eq_getD_getElem?, hd]
    · rw [if_neg e]
      simp [Array.getD_eq_getD_getElem?, Array.getElem?_setIfInBounds, e]

theorem put_size (a : Act) (dst : Option Nat) (v : Value) : (a.put dst v).tmps.size = a.tmps.size := by cases dst <;> simp [Act.put]
theorem put_defers (a : Act) (dst : Option Nat) (v : Value) : (a.put dst v).defers = a.defers := by cases dst <;> simp [Act.put]

theorem putT_get (tm : List (Nat × AVal)) (dst : Option Nat) (v : AVal) (t : Nat) : getT (putT tm dst v) t = if dst = some t then v else getT tm t := by
  cases dst with
  | none => simp [putT]
  | some d =>
    simp only [putT, getT, Option.some.injEq]
    by_cases e : d = t
    · subst e; simp [Nat.beq_refl]
    · have : Nat.beq d t = false := by
        cases h : Nat.beq d t with
        | false => rfl
        | true => exact absurd (beq_nat h) e
      simp [this, e]

theorem dstOk_spec {nt : Nat} {dst : Option Nat} (h : dstOk nt dst = true) : ∀ d, dst = some d → d < nt := by
  intro d e; subst e; exact blt_nat h

/-- what an operation of a region did -/
structure Tr where
  exec : Bool
  v : AVal
  rd : List Nat
  wr : List Nat
  nn : Nat

structure StepOf (P : Program) (nt : Nat) (ops : List Oper) (o : Oper) (st : St) (tr : Tr) (st1 : St) : Prop where
  dst : dstOk nt o.dst = true
  tm : ∀ t, getT st1.tm t = if o.dst = some t then tr.v else getT st.tm t
  yes : tr.exec = true → ∃ p, Impl P o (evalA st.tm) p ∧ PStep P p (getB st.σ) st.σ.length tr.v (getB st1.σ) tr.rd tr.wr tr.nn
  no : tr.exec = false → tr.v = .tuple [] ∧ st1.σ = st.σ ∧ tr.rd = [] ∧ tr.wr = [] ∧ tr.nn = 0
  len : st1.σ.length = st.σ.length + tr.nn
  guard : match o.guard with
    | none => tr.exec = true
    | some (j, want) => ∃ t, dstOf ops j = some t ∧ ((∃ b, getT st.tm t = .bool b ∧ tr.exec = (b == want)) ∨ (getT st.tm t = .tuple [] ∧ tr.exec = false))

inductive Runs (P : Program) (nt : Nat) (ops : List Oper) : List Oper → St → List (Oper × St × Tr × St) → St → Prop
  | nil (st) : Runs P nt ops [] st [] st
  | cons (o rest st tr st1 l st') : StepOf P nt ops o st tr st1 → Runs P nt ops rest st1 l st' → Runs P nt ops (o :: rest) st ((o, st, tr, st1) :: l) st'

def entries : Nat → List (Oper × St × Tr × St) → Log
  | _, [] => []
  | i, (_, _, tr, _) :: l => match tr.rd, tr.wr with
    | [], [] => entries (i + 1) l
    | _, _ => (i, tr.rd, tr.wr) :: entries (i + 1) l

theorem addLog_entries (i : Nat) (tr : Tr) (o : Oper) (s s' : St) (l : List (Oper × St × Tr × St)) (log : Log) :
    (entries (i + 1) l).reverse ++ addLog i tr.rd tr.wr log = (entries i ((o, s, tr, s') :: l)).reverse ++ log := by
  unfold addLog
  simp only [entries]
  split <;> simp_all

theorem evalA_cons {tm : List (Nat × AVal)} {t : Nat} {v : AVal} (h : getT tm t = v) : evalA ((t, v) :: tm) = evalA tm := by
  funext x
  cases x with
  | tmp u =>
    simp only [evalA, getT]
    cases e : Nat.beq t u with
    | true => have := beq_nat e; subst this; simp [h]
    | false => simp
  | const v => rfl
  | global g => rfl
  | func f => rfl

theorem getT_cons {tm : List (Nat × AVal)} {t : Nat} {v : AVal} (h : getT tm t = v) (u : Nat) : getT ((t, v) :: tm) u = getT tm u := by
  have := congrFun (evalA_cons h) (.tmp u)
  simpa [evalA] using this

theorem stepA_sound (hti : TyOk P ti) {Γ : Env} (hΓ : EnvOk P Γ) {R : Type} {nt : Nat} {o : Oper} {i : Nat} {st : St} {log : Log} {K : St → Log → Option R} {r : R} (h : stepA ti Γ nt o i st log K = some r) :
    ∃ (st1 : St) (tr : Tr), K st1 (addLog i tr.rd tr.wr log) = some r ∧ dstOk nt o.dst = true ∧ (∀ t, getT st1.tm t = if o.dst = some t then tr.v else getT st.tm t) ∧ tr.exec = true ∧
      (∃ p, Impl P o (evalA st.tm) p ∧ PStep P p (getB st.σ) st.σ.length tr.v (getB st1.σ) tr.rd tr.wr tr.nn) ∧ st1.σ.length = st.σ.length + tr.nn := by
  unfold stepA at h
  have hd := (of_cond h).1; replace h := (of_cond h).2
  obtain ⟨p, hp, himpl⟩ := primK_sound (P := P) hti h
  obtain ⟨v, σ', rd, wr, nn, hk, hps, hlen⟩ := runPrim_sound hΓ hp
  exact ⟨_, ⟨true, v, rd, wr, nn⟩, hk, hd, putT_get _ _ _, rfl, ⟨p, himpl, hps⟩, hlen⟩

theorem skipA_sound {R : Type} {nt : Nat} {o : Oper} {st : St} {log : Log} {K : St → Log → Option R} {r : R} (h : skipA nt o st log K = some r) :
    ∃ st1, K st1 log = some r ∧ dstOk nt o.dst = true ∧ (∀ t, getT st1.tm t = if o.dst = some t then .tuple [] else getT st.tm t) ∧ st1.σ = st.σ := by
  unfold skipA at h
  have hd := (of_cond h).1; replace h := (of_cond h).2
  exact ⟨_, h, hd, putT_get _ _ _, rfl⟩

theorem runOps_trace (hti : TyOk P ti) {Γ : Env} (hΓ : EnvOk P Γ) {R : Type} {nt : Nat} {ops : List Oper} : ∀ (rest : List Oper) (i : Nat) (st : St) (log : Log) (K : St → Log → Option R) (r : R),
    runOps ti Γ nt ops rest i st log K = some r → ∃ st' l, K st' ((entries i l).reverse ++ log) = some r ∧ Runs P nt ops rest st l st'
  | [], i, st, log, K, r, h => ⟨st, [], by simpa [entries, runOps] using h, .nil st⟩
  | o :: rest, i, st, log, K, r, h => by
    have fin : ∀ (st0 st1 : St) (tr : Tr), StepOf P nt ops o st tr st1 → runOps ti Γ nt ops rest (i + 1) st1 (addLog i tr.rd tr.wr log) K = some r →
        ∃ st' l, K st' ((entries i l).reverse ++ log) = some r ∧ Runs P nt ops (o :: rest) st l st' := by
      intro st0 st1 tr hs hr
      obtain ⟨st', l, hk, hrun⟩ := runOps_trace hti hΓ rest (i + 1) st1 _ K r hr
      refine ⟨st', (o, st, tr, st1) :: l, ?_, .cons o rest st tr st1 l st' hs hrun⟩
      rw [← addLog_entries]; exact hk
    simp only [runOps] at h
    split at h
    · rename_i hg
      obtain ⟨st1, tr, hk, hd, htm, hex, hp, hlen⟩ := stepA_sound hti hΓ h
      exact fin st st1 tr ⟨hd, htm, fun _ => hp, fun h => (by rw [hex] at h; cases h), hlen, by rw [hg]; exact hex⟩ hk
    · rename_i j want hg
      split at h
      · cases h
      · rename_i t hdst
        split at h
        · rename_i b hb
          -- the guard's value is known from here on
          have doit : ∀ (q : Bool), b = q → (stepA ti Γ nt o i ⟨(t, .bool q) :: st.tm, st.σ⟩ log fun st log => runOps ti Γ nt ops rest (i + 1) st log K) = some r → (q == want) = true →
              ∃ st' l, K st' ((entries i l).reverse ++ log) = some r ∧ Runs P nt ops (o :: rest) st l st' := by
            intro q hq hs hw
            subst hq
            obtain ⟨st1, tr, hk, hd, htm, hex, hp, hlen⟩ := stepA_sound hti hΓ hs
            simp only [evalA_cons hb] at hp
            exact fin st st1 tr ⟨hd, fun u => by rw [htm u, getT_cons hb], fun _ => hp, fun h => (by rw [hex] at h; cases h), hlen, by rw [hg]; exact ⟨t, hdst, .inl ⟨b, hb, by rw [hex, hw]⟩⟩⟩ hk
          have skip : ∀ (q : Bool), b = q → (skipA nt o ⟨(t, .bool q) :: st.tm, st.σ⟩ log fun st log => runOps ti Γ nt ops rest (i + 1) st log K) = some r → (q == want) = false →
              ∃ st' l, K st' ((entries i l).reverse ++ log) = some r ∧ Runs P nt ops (o :: rest) st l st' := by
            intro q hq hs hw
            subst hq
            obtain ⟨st1, hk, hd, htm, hσ⟩ := skipA_sound hs
            exact fin st st1 ⟨false, .tuple [], [], [], 0⟩ ⟨hd, fun u => by rw [htm u, getT_cons hb], fun h => (by cases h), fun _ => ⟨rfl, hσ, rfl, rfl, rfl⟩, by rw [hσ]; rfl, by rw [hg]; exact ⟨t, hdst, .inl ⟨b, hb, hw.symm⟩⟩⟩ hk
          cases b with
          | true =>
            simp only [cond_true] at h
            cases want with
            | true => simp only [cond_true] at h; exact doit true rfl h rfl
            | false => simp only [cond_false] at h; exact skip true rfl h rfl
          | false =>
            simp only [cond_false] at h
            cases want with
            | true => simp only [cond_true] at h; exact skip false rfl h rfl
            | false => simp only [cond_false] at h; exact doit false rfl h rfl
        · rename_i hb
          obtain ⟨st1, hk, hd, htm, hσ⟩ := skipA_sound h
          exact fin st st1 ⟨false, .tuple [], [], [], 0⟩ ⟨hd, htm, fun h => (by cases h), fun _ => ⟨rfl, hσ, rfl, rfl, rfl⟩, by rw [hσ]; rfl, by rw [hg]; exact ⟨t, hdst, .inr ⟨hb, rfl⟩⟩⟩ hk
        · cases h

/-- is the operation carried out, really? -/
theorem wanted_of {ops : List Oper} {o : Oper} {φ : Map} {tmv : Nat → AVal} {a : Act} {ex : Bool} (htm : ∀ t, (∀ g want, o.guard = some (g, want) → dstOf ops g = some t → VRel φ (tmv t) (a.tmps.getD t undef)))
    (hg : match o.guard with
      | none => ex = true
      | some (j, want) => ∃ t, dstOf ops j = some t ∧ ((∃ b, tmv t = .bool b ∧ ex = (b == want)) ∨ (tmv t = .tuple [] ∧ ex = false))) :
    Region.wanted o (yielded ops.toArray a.tmps) = ex := by
  unfold Region.wanted
  split at hg
  · rename_i h; rw [h]; exact hg.symm
  · rename_i j want h
    rw [h]
    obtain ⟨t, ht, hb⟩ := hg
    have hv := htm t j want h ht
    have hd : (ops.toArray[j]?).bind (·.dst) = some t := by
      unfold dstOf at ht
      simp only [List.getElem?_toArray]
      cases ho : ops[j]? with
      | none => rw [ho] at ht; cases ht
      | some o' => rw [ho] at ht; simpa using ht
    simp only [yielded, hd, Option.bind_some]
    rcases hb with ⟨b, hb, rfl⟩ | ⟨hb, rfl⟩
    · rw [hb] at hv
      simp only [VRel] at hv
      have : a.tmps[t]? = some (.bool b) := by
        cases hx : a.tmps[t]? with
        | none => rw [Array.getD_eq_getD_getElem?, hx] at hv; simp [undef] at hv
        | some y => rw [Array.getD_eq_getD_getElem?, hx] at hv; simp at hv; rw [hv]
      simp only [this]
      cases b <;> cases want <;> rfl
    · rw [hb] at hv
      simp only [VRel, VRels] at hv
      obtain ⟨us, hv, rfl⟩ := hv
      cases hx : a.tmps[t]? with
      | none => rfl
      | some y =>
        rw [Array.getD_eq_getD_getElem?, hx] at hv
        simp at hv; rw [hv]; rfl
end Go.Proofs.YtdgipcjigbagfaaGreat.AB
