/- Code, loops, functions: the interpreter is sound. -/
import Derived.Test.YtdgipcjigbagfaaGreatFwU
namespace Go.Proofs.YtdgipcjigbagfaaGreat.AB
set_option linter.unusedSimpArgs false
set_option linter.unusedVariables false
variable {P : Program} {ti : Nat → TyI}

theorem widT_keeps {m : Nat} {st : St} (hd : Wd) (hm : m ≤ st.σ.length) : Keeps m st (widT hd st) := by
  unfold widT
  split
  · refine ⟨by simp; omega, fun b hb _ => ?_⟩
    simp only; rw [getB_append, if_pos (by omega)]
  · exact .refl hm
theorem widC_keeps {m : Nat} {st : St} (hd : Wd) (bb : Nat) (hm : m ≤ st.σ.length) : Keeps m st (widC hd bb st) := by
  unfold widC
  split
  · rename_i cs hcs
    split
    · have hlt : bb < st.σ.length := lt_of_live (by rw [hcs]; rfl)
      refine ⟨by simp [setB_length]; omega, fun b hb hw => ?_⟩
      simp only
      rw [getB_append, if_pos (by rw [setB_length]; omega), getB_setB _ _ _ hlt]
      unfold upd
      rw [if_neg]
      intro e; subst e; rw [hcs] at hw; cases hw
    · exact .refl hm
  · exact .refl hm
theorem dropW_keeps {m : Nat} {st : St} (b0 : Nat) (hm : m ≤ st.σ.length) : Keeps m st (dropW b0 st) := by
  unfold dropW
  cases hw : (getB st.σ b0).wr with
  | false => exact .refl hm
  | true =>
    simp only [cond_true]
    have hlt : b0 < st.σ.length := lt_of_live (wr_live hw)
    refine ⟨by simp only [setB_length]; exact hm, fun b hb hw' => ?_⟩
    simp only
    rw [getB_setB _ _ _ hlt]
    unfold upd
    rw [if_neg]
    intro e; subst e; rw [hw] at hw'; cases hw'
theorem moveW_keeps {m : Nat} {st : St} (b0 : Nat) (hm : m ≤ st.σ.length) : Keeps m st (moveW b0 st) := by
  unfold moveW
  cases hw : (getB st.σ b0).wr with
  | false => exact .refl hm
  | true =>
    simp only [cond_true]
    have hlt : b0 < st.σ.length := lt_of_live (wr_live hw)
    refine ⟨by simp only [List.length_append, List.length_map, setB_length, List.length_singleton]; omega, fun b hb hw' => ?_⟩
    simp only
    rw [moveW_get hlt, if_neg (by omega), if_neg (by intro e; subst e; rw [hw] at hw'; cases hw'), renB_still hw']
theorem widen1_keeps {m : Nat} {st : St} (hd : Wd) (hm : m ≤ st.σ.length) : Keeps m st (widen1 hd st) := by
  unfold widen1
  split
  · exact widT_keeps hd hm
  · exact widC_keeps hd _ hm
  · exact moveW_keeps _ hm
  · exact dropW_keeps _ hm

theorem widen_sound {B : Base} {nt : Nat} {a : Act} {w : World} : ∀ (ws : List Wd) {st : St}, StRel B nt st a w → StRel B nt (widen ws st) a w
  | [], _, h => h
  | hd :: ws, _, h => widen_sound ws (widen1_sound hd h)
theorem widen_keeps {m : Nat} : ∀ (ws : List Wd) {st : St}, m ≤ st.σ.length → Keeps m st (widen ws st)
  | [], _, h => .refl h
  | hd :: ws, _, h => (widen1_keeps hd h).trans (widen_keeps ws (widen1_keeps hd h).len)

theorem norm_sound {B : Base} {nt m : Nat} (hB : B.m = m) (ws : List Wd) {st : St} {a : Act} {w : World} (h : StRel B nt st a w) : StRel B nt (norm m ws st) a w := by
  unfold norm
  split
  · exact gc_sound hB h
  · exact gc_sound hB (widen_sound _ (gc_sound hB h))
theorem norm_keeps {m : Nat} (ws : List Wd) {st : St} (hm : m ≤ st.σ.length) : Keeps m st (norm m ws st) := by
  unfold norm
  split
  · exact gc_keeps hm
  · have h1 := gc_keeps (st := st) hm
    exact (h1.trans (widen_keeps _ h1.len)).trans (gc_keeps (widen_keeps _ h1.len).len)

theorem clean_sound {B : Base} {nt m : Nat} (hB : B.m = m) (keep : List Nat × List Wd) {st : St} {a : Act} {w : World} (h : StRel B nt st a w) : StRel B nt (clean m keep st) a w :=
  norm_sound hB keep.2 (h.restrict keep.1)
theorem clean_keeps {m : Nat} (keep : List Nat × List Wd) {st : St} (hm : m ≤ st.σ.length) : Keeps m st (clean m keep st) :=
  have h := norm_keeps (m := m) keep.2 (st := ⟨restrict keep.1 st.tm, st.σ⟩) hm
  ⟨h.len, h.same⟩

theorem runs_keeps {nt m : Nat} {ops : List Oper} : ∀ {rest : List Oper} {st st' : St} {l : TL}, Runs P nt ops rest st l st' → m ≤ st.σ.length → Keeps m st st'
  | [], st, st', l, h, hm => by cases h; exact .refl hm
  | o :: rest, st, st', l, h, hm => by
    cases h with
    | cons _ _ _ tr st1 l st' hs h =>
      have h1 : Keeps m st st1 := by
        refine ⟨by rw [hs.len]; omega, fun b hb hw => ?_⟩
        cases hex : tr.exec with
        | true =>
          obtain ⟨p, _, hp⟩ := hs.yes hex
          obtain ⟨f1, _, _, f4⟩ := hp.frame (getB_live_lt _)
          refine f1 b fun hbw => ?_
          have := f4 b hbw (by omega)
          rw [hw] at this; cases this
        | false => rw [(hs.no hex).2.1]
      exact h1.trans (runs_keeps h h1.len)

def exC : Ex → Exit
  | .normal => .normal
  | .exit id => .exit id
  | .ret => .ret

/-- what follows once a loop's body stands ahead -/
def LoopW (P : Program) (c : Code) (Q : Exit → Act → World → Prop) (a : Act) (w : World) : Prop :=
  ∀ (b : Frame) (k : List Item) (cs : List Frame), ∃ e a' w', Q e a' w' ∧ Arrives P (lone (b.at a (.code c :: .inLoop c :: k)) cs w) b k cs e a' w'

theorem loop_of {c : Code} {Q : Exit → Act → World → Prop} {a : Act} {w : World} (h : LoopW P c Q a w) : (Code.loop c).wp P Q a w :=
  fun b k cs => let ⟨e, a', w', q, r⟩ := h b k cs; ⟨e, a', w', q, .of_steps (.one step_loop) r⟩

theorem loopW_of {c : Code} {Q : Exit → Act → World → Prop} {a : Act} {w : World} (h : c.wp P (Exit.then (LoopW P c Q) Q) a w) : LoopW P c Q a w := by
  intro b k cs
  obtain ⟨e, a₁, w₁, hq, harr⟩ := h b (.inLoop c :: k) cs
  cases e with
  | normal =>
    obtain ⟨e₂, a₂, w₂, hq₂, harr₂⟩ := hq b k cs
    exact ⟨e₂, a₂, w₂, hq₂, .of_steps (Steps.trans harr (.one step_inLoop)) harr₂⟩
  | exit id => exact ⟨_, a₁, w₁, hq, .pass (x := .inLoop c) rfl (fun _ _ => .inl (by simp)) harr⟩
  | goto l => exact ⟨_, a₁, w₁, hq, .pass (x := .inLoop c) rfl (fun _ _ => .inl (by simp)) harr⟩
  | ret => exact ⟨_, a₁, w₁, hq, .pass (x := .inLoop c) rfl (fun _ _ => .inl (by simp)) harr⟩
  | panic ch => exact ⟨_, a₁, w₁, hq, .pass (x := .inLoop c) rfl (fun _ _ => .inl (by simp)) harr⟩
  | outgrown => exact ⟨_, a₁, w₁, hq, .pass (x := .inLoop c) rfl (fun _ _ => .inl (by simp)) harr⟩

/-- the interpreter's run of a code, and what it means -/
def Means (P : Program) (m nt : Nat) (W : (Exit → Act → World → Prop) → Act → World → Prop) (st st' : St) (e : Ex) : Prop :=
  Keeps m st st' ∧ ∀ (B : Base) (a : Act) (w : World), B.m = m → StRel B nt st a w → ∀ Q : Exit → Act → World → Prop, (∀ a' w', StRel B nt st' a' w' → Q (exC e) a' w') → W Q a w

theorem iter_sound {c : Code} {m nt : Nat} {keep : List Nat × List Wd} {R : Type} {F : St → (Ex → St → Option R) → Option R}
    (hF : ∀ (st : St) (K : Ex → St → Option R) (r : R), m ≤ st.σ.length → F st K = some r → ∃ e st', K e st' = some r ∧ Means P m nt (fun Q a w => c.wp P Q a w) st st' e) :
    ∀ (n : Nat) (st : St) (K : Ex → St → Option R) (r : R), m ≤ st.σ.length → iterF F (clean m keep) n st K = some r → ∃ e st', K e st' = some r ∧ Means P m nt (LoopW P c) st st' e := by
  intro n
  induction n with
  | zero => intro st K r _ h; cases h
  | succ n ih =>
    intro st K r hm h
    simp only [iterF] at h
    obtain ⟨e, st1, hk, hkeep, hmean⟩ := hF st _ r hm h
    cases e with
    | normal =>
      simp only at hk
      obtain ⟨e2, st2, hk2, hkeep2, hmean2⟩ := ih _ K r (clean_keeps keep hkeep.len).len hk
      refine ⟨e2, st2, hk2, (hkeep.trans (clean_keeps keep hkeep.len)).trans hkeep2, fun B a w hB hst Q hQ => loopW_of (hmean B a w hB hst _ fun a' w' hst' => ?_)⟩
      exact hmean2 B a' w' hB (clean_sound hB keep hst') Q hQ
    | exit id => exact ⟨.exit id, st1, hk, hkeep, fun B a w hB hst Q hQ => loopW_of (hmean B a w hB hst _ fun a' w' hst' => hQ a' w' hst')⟩
    | ret => exact ⟨.ret, st1, hk, hkeep, fun B a w hB hst Q hQ => loopW_of (hmean B a w hB hst _ fun a' w' hst' => hQ a' w' hst')⟩

theorem interp_sound (C : Cfg) (hti : TyOk P (tyAt C.ti)) (hmix : P.follows .mixedOrders = true) {Γ : Env} (hΓ : EnvOk P Γ) : ∀ (c : Code) {R : Type} (st : St) (K : Ex → St → Option R) (r : R), C.m ≤ st.σ.length →
    interp C Γ c st K = some r → ∃ e st', K e st' = some r ∧ Means P C.m C.nt (fun Q a w => c.wp P Q a w) st st' e := by
  intro c
  induction c with
  | skip => intro R st K r hm h; exact ⟨.normal, st, h, .refl hm, fun B a w _ hst Q hQ => wp_skip (hQ a w hst)⟩
  | region id ops draw =>
    intro R st K r hm h
    simp only [interp] at h
    obtain ⟨st', l, hk, hrun, hmean⟩ := region_sound (id := id) (draw := draw) hti hmix hΓ h
    have hk1 := runs_keeps hrun hm
    refine ⟨.normal, _, hk, ⟨hk1.len, hk1.same⟩, fun B a w hB hst Q hQ => hmean B a w hst Q fun a' w' hst' => hQ a' w' (hst'.restrict (C.keepR id))⟩
  | seq x y ihx ihy =>
    intro R st K r hm h
    simp only [interp] at h
    obtain ⟨e, st1, hk, hkeep, hmean⟩ := ihx st _ r hm h
    cases e with
    | normal =>
      obtain ⟨e2, st2, hk2, hkeep2, hmean2⟩ := ihy st1 K r hkeep.len hk
      exact ⟨e2, st2, hk2, hkeep.trans hkeep2, fun B a w hB hst Q hQ => wp_seq (hmean B a w hB hst _ fun a' w' hst' => hmean2 B a' w' hB hst' Q hQ)⟩
    | exit id => exact ⟨.exit id, st1, hk, hkeep, fun B a w hB hst Q hQ => wp_seq (hmean B a w hB hst _ fun a' w' hst' => hQ a' w' hst')⟩
    | ret => exact ⟨.ret, st1, hk, hkeep, fun B a w hB hst Q hQ => wp_seq (hmean B a w hB hst _ fun a' w' hst' => hQ a' w' hst')⟩
  | cond q x y ihx ihy =>
    intro R st K r hm h
    simp only [interp] at h
    split at h
    · rename_i t ht
      have hev : ∀ {B : Base} {a : Act} {w : World}, StRel B C.nt st a w → a.eval q = .bool t := by
        intro B a w hst
        obtain ⟨φ, ψ, _, _, htm⟩ := hst.mem
        have := evalA_rel htm q
        rw [ht] at this
        simpa only [VRel] using this
      cases t with
      | true =>
        simp only [cond_true] at h
        obtain ⟨e, st1, hk, hkeep, hmean⟩ := ihx st K r hm h
        exact ⟨e, st1, hk, hkeep, fun B a w hB hst Q hQ => wp_cond_true (hev hst) (hmean B a w hB hst Q hQ)⟩
      | false =>
        simp only [cond_false] at h
        obtain ⟨e, st1, hk, hkeep, hmean⟩ := ihy st K r hm h
        exact ⟨e, st1, hk, hkeep, fun B a w hB hst Q hQ => wp_cond_false (hev hst) (hmean B a w hB hst Q hQ)⟩
    · cases h
  | block id x ih =>
    intro R st K r hm h
    simp only [interp] at h
    obtain ⟨e, st1, hk, hkeep, hmean⟩ := ih st _ r hm h
    cases e with
    | normal => exact ⟨.normal, st1, hk, hkeep, fun B a w hB hst Q hQ => wp_block (hmean B a w hB hst _ fun a' w' hst' => hQ a' w' hst')⟩
    | ret => exact ⟨.ret, st1, hk, hkeep, fun B a w hB hst Q hQ => wp_block (hmean B a w hB hst _ fun a' w' hst' => hQ a' w' hst')⟩
    | exit i =>
      simp only at hk
      cases hb : Nat.beq i id with
      | true =>
        rw [hb] at hk; simp only [cond_true] at hk
        have e := beq_nat hb; subst e
        exact ⟨.normal, st1, hk, hkeep, fun B a w hB hst Q hQ => wp_block (hmean B a w hB hst _ fun a' w' hst' => by simp only [exC, Exit.inBlock, if_true]; exact hQ a' w' hst')⟩
      | false =>
        rw [hb] at hk; simp only [cond_false] at hk
        have hne : i ≠ id := by intro e; subst e; rw [Nat.beq_refl] at hb; cases hb
        exact ⟨.exit i, st1, hk, hkeep, fun B a w hB hst Q hQ => wp_block (hmean B a w hB hst _ fun a' w' hst' => by simp only [exC, Exit.inBlock, hne, if_false]; exact hQ a' w' hst')⟩
  | loop x ih =>
    intro R st K r hm h
    simp only [interp] at h
    have hc := clean_keeps (m := C.m) (C.keepL (firstReg x)) hm
    obtain ⟨e, st', hk, hkeep, hmean⟩ := iter_sound (P := P) (c := x) (nt := C.nt) (keep := C.keepL (firstReg x)) (fun st K r hm h => ih st K r hm h) C.fuel _ K r hc.len h
    exact ⟨e, st', hk, hc.trans hkeep, fun B a w hB hst Q hQ => loop_of (hmean B a w hB (clean_sound hB _ hst) Q hQ)⟩
  | exit id => intro R st K r hm h; exact ⟨.exit id, st, h, .refl hm, fun B a w _ hst Q hQ => wp_exit (hQ a w hst)⟩
  | ret => intro R st K r hm h; exact ⟨.ret, st, h, .refl hm, fun B a w _ hst Q hQ => wp_ret (hQ a w hst)⟩
  | _ => intro R st K r hm h; cases h

/-! functions -/
def resF (tmps : Array Value) : ResultVar → Sem Value
  | .tmp t => pure (tmps.getD t undef)
  | .cell a t => do loadVar t (← asAddr (tmps.getD a undef))
theorem results_eq (fn : Func) (tmps : Array Value) : results fn tmps = (do
    let vs ← fn.results.mapM (resF tmps)
    pure (if h : vs.size = 1 then vs[0] else .tuple vs)) := by
  unfold results
  congr 1
theorem resF_tmp (tmps : Array Value) (t : Tmp) : resF tmps (.tmp t) = pure (tmps.getD t undef) := rfl
theorem resF_cell {w : World} (tmps : Array Value) (a : Tmp) (T : TypeId) {x : Addr} (he : tmps.getD a undef = .pointer (some x)) : (resF tmps (.cell a T)).run P w = (loadVar T x).run P w := by
  simp only [resF, he, asAddr, Sem.run_bind, Sem.run_pure, Result.andThen_ok]

theorem resultsK_sound (hti : TyOk P ti) {R : Type} {st : St} : ∀ (rs : List ResultVar) (k : List AVal → Option R) (r : R), resultsK ti st rs k = some r → ∃ vs, k vs = some r ∧
    ∀ (φ : Map) (ψ : Nat → List Nat) (w : World) (tmps : Array Value), SRel φ ψ (getB st.σ) w → (∀ t, VRel φ (getT st.tm t) (tmps.getD t undef)) →
      ∃ us, (rs.mapM (resF tmps)).run P w = .ok us w ∧ VRels φ vs us
  | [], k, r, h => ⟨[], h, fun φ ψ w tmps _ _ => ⟨[], by simp, by simp [VRels]⟩⟩
  | .tmp t :: rs, k, r, h => by
    simp only [resultsK] at h
    obtain ⟨vs, hk, hm⟩ := resultsK_sound hti rs _ r h
    refine ⟨_, hk, fun φ ψ w tmps hs ht => ?_⟩
    obtain ⟨us, h1, h2⟩ := hm φ ψ w tmps hs ht
    exact ⟨tmps.getD t undef :: us, by simp only [List.mapM_cons, resF_tmp, Sem.run_bind, Sem.run_pure, Result.andThen_ok, h1], by simp only [VRels]; exact ⟨_, _, rfl, ht t, h2⟩⟩
  | .cell a T :: rs, k, r, h => by
    simp only [resultsK] at h
    split at h
    · rename_i b i j hx
      have hkn := (of_cond h).1; replace h := (of_cond h).2
      obtain ⟨cs, hrow, h⟩ := openRow_some h
      split at h
      · rename_i v hp
        obtain ⟨vs, hk, hm⟩ := resultsK_sound hti rs _ r h
        refine ⟨_, hk, fun φ ψ w tmps hs ht => ?_⟩
        obtain ⟨us, h1, h2⟩ := hm φ ψ w tmps hs ht
        have hv := ht a
        rw [hx] at hv
        simp only [VRel] at hv
        obtain ⟨L, hL, he⟩ := hv
        have hlive : (getB st.σ b).live = true := by
          cases hG : getB st.σ b with
          | dead => rw [hG] at hrow; simp [Blk.rowAt] at hrow
          | var _ => rfl
          | fam _ _ _ _ => rfl
          | cells _ => rfl
          | rows _ _ _ => rfl
        obtain ⟨L', hL', hsz, hc, hr⟩ := (hs.rel b).parts hlive (rowAt_isFam hrow)
        rw [hL] at hL'; injection hL' with hL'; subst hL'
        have hlt := Blk.rowAt_lt hrow
        rcases hr with ⟨_, h0, _⟩ | ⟨_, _, arr, e, fz, hh, _, _, hcell⟩
        · omega
        · obtain ⟨cv, hrun, hcv⟩ := run_loadVar hti (known_ne hkn) hh (hcell i cs hrow) hp
          refine ⟨cv :: us, ?_, by simp only [VRels]; exact ⟨_, _, rfl, hcv, h2⟩⟩
          simp only [List.mapM_cons, Sem.run_bind, resF_cell _ _ _ he, hrun, Sem.run_pure, Result.andThen_ok, h1]
      · cases h
    · cases h

theorem argsT_get : ∀ (n : Nat) (args : List AVal) (t : Nat), getT (argsT n args) t = if n ≤ t then (args[t - n]?).getD .undef else .undef
  | n, [], t => by simp [argsT, getT]
  | n, v :: args, t => by
    simp only [argsT, getT]
    cases h : Nat.beq n t with
    | true => have := beq_nat h; subst this; simp
    | false =>
      simp only [cond_false]
      rw [argsT_get (n + 1) args t]
      have hne : n ≠ t := by intro e; subst e; rw [Nat.beq_refl] at h; cases h
      by_cases hn : n ≤ t
      · rw [if_pos (by omega), if_pos hn, show t - n = (t - (n + 1)) + 1 by omega]; simp
      · rw [if_neg (by omega), if_neg hn]

theorem start_rel {σ : List Blk} {args : List AVal} {φ : Map} {ψ : Nat → List Nat} {w : World} {cargs : List Value} {nt : Nat} (hs : SRel φ ψ (getB σ) w) (hdom : ∀ b, φ b ≠ none → b < σ.length) (ha : VRels φ args cargs) (hnt : args.length ≤ nt) :
    StRel (baseOf σ φ ψ w) nt ⟨argsT 0 args, σ⟩ { tmps := cargs.toArray ++ Array.replicate (nt - cargs.toArray.size) undef, defers := [] } w := by
  have hl := ha.length
  refine ⟨⟨φ, ψ, ⟨hs, fun b hb c hc => .inl ⟨b, lt_of_live (wr_live hb), hb, hc⟩, fun c _ _ => rfl, Nat.le_refl _, fun b _ => rfl, fun b hb => ⟨lt_of_live (ro_live hb), hb⟩, fun b _ hb => ?_, fun b _ hb => hb, fun b _ _ => rfl, .refl _⟩, hdom, fun t => ?_⟩, by simp; omega, rfl, Nat.le_refl _⟩
  · simp only [Base.ro0, baseOf] at hb
    cases hG : getB σ b with
    | dead => rfl
    | var cs => rw [hG] at hb; cases hb
    | fam t c l f => rw [hG] at hb; cases hb
    | cells cs => rw [hG] at hb; cases hb
    | rows c l ro => rw [hG] at hb; simp only [Blk.ro] at hb; simp [Blk.wr, hb]
  · simp only [argsT_get, Nat.zero_le, if_true, Nat.sub_zero]
    cases ht : args[t]? with
    | none => simp [VRel]
    | some v =>
      obtain ⟨u, hu, hr⟩ := ha.get t v ht
      have hlt := (List.getElem?_eq_some_iff.mp hu).1
      simp only [Option.getD_some]
      rw [Array.getD_eq_getD_getElem?, Array.getElem?_append_left (by simpa using hlt)]
      simpa [hu] using hr

theorem finish_sound {m : Nat} {ws : List Wd} {σ : List Blk} {v : AVal} {R : Type} {k : AVal → List Blk → Option R} {r : R} (hm : m ≤ σ.length) (h : finish m ws σ v k = some r) :
    ∃ v' σ', k v' σ' = some r ∧ Keeps m ⟨[], σ⟩ ⟨[], σ'⟩ ∧ ∀ (B : Base) (φ : Map) (ψ : Nat → List Nat) (w : World) (cv : Value), B.m = m → GI B φ ψ (getB σ) w → (∀ b, φ b ≠ none → b < σ.length) → VRel φ v cv →
      ∃ φ' ψ', VRel φ' v' cv ∧ GI B φ' ψ' (getB σ') w ∧ ∀ b, φ' b ≠ none → b < σ'.length := by
  unfold finish at h
  have hk := norm_keeps (m := m) ws (st := ⟨[(0, v)], σ⟩) hm
  refine ⟨_, _, h, ⟨hk.len, hk.same⟩, fun B φ ψ w cv hB hg hd hv => ?_⟩
  have hst : StRel B 1 ⟨[(0, v)], σ⟩ { tmps := #[cv], defers := [] } w := by
    refine ⟨⟨φ, ψ, hg, hd, fun t => ?_⟩, rfl, rfl, by simp only; omega⟩
    cases t with
    | zero => simpa [getT] using hv
    | succ t => simp [getT, VRel, Nat.beq]
  obtain ⟨⟨φ', ψ', hg', hd', ht'⟩, _⟩ := norm_sound hB ws hst
  exact ⟨φ', ψ', by simpa using ht' 0, hg', hd'⟩

theorem fn_sound (tis : List TyI) (hti : TyOk P (tyAt tis)) (hmix : P.follows .mixedOrders = true) {Γ : Env} (hΓ : EnvOk P Γ) {F : FCfg} {fuel f : Nat} {fn : Func} (hfn : P.funcs[f]? = some fn) (hname : (fn.name == "runtime.NumGoroutine") = false)
    {R : Type} {args : List AVal} {σ : List Blk} {k : AVal → List Blk → Option R} {r : R} (h : fnEval tis F fuel Γ fn args σ k = some r) : ∃ v σ', k v σ' = some r ∧ Callable P f ∧ ACalls P f args σ v σ' := by
  unfold fnEval at h
  split at h
  · cases h
  · rename_i c hbody
    have hnt := (of_cond h).1; replace h := (of_cond h).2
    have hnt := Nat.le_of_ble_eq_true hnt
    obtain ⟨e, st', hk, hkeep, hmean⟩ := interp_sound (P := P) (Cfg.of tis F fuel σ.length fn.ntmps) hti hmix hΓ c ⟨argsT 0 args, σ⟩ _ r (Nat.le_refl _) h
    have hend : ∃ q, q = e ∧ (e = .normal ∨ e = .ret) ∧ resultsK (tyAt tis) st' fn.results.toList (fun vs => finish σ.length F.keepF st'.σ (one vs) k) = some r := by
      cases e with
      | normal => exact ⟨_, rfl, .inl rfl, hk⟩
      | ret => exact ⟨_, rfl, .inr rfl, hk⟩
      | exit id => cases hk
    obtain ⟨_, _, he, hres⟩ := hend
    obtain ⟨vs, hfin, hvals⟩ := resultsK_sound hti _ _ r hres
    obtain ⟨v', σ', hkk, hkeep2, hfs⟩ := finish_sound hkeep.len hfin
    refine ⟨v', σ', hkk, ⟨fn, c, hfn, hbody, hname⟩, hkeep2.len, fun b hb hw => ?_, fun φ ψ w cargs hs hdom ha => ?_⟩
    · have h1 := hkeep.same b hb hw
      have h2 := hkeep2.same b hb (by simp only; rw [h1]; exact hw)
      exact h2.trans h1
    · refine calls_of_wp hfn hbody (hmean (baseOf σ φ ψ w) _ w rfl (start_rel hs hdom ha hnt) _ fun a' w' hst' => ?_)
      have hpost : a'.defers = [] ∧ ∃ v, (results fn a'.tmps).run P w' = .ok v w' ∧ ∃ φ' ψ' cv, Ending.returned v = .returned cv ∧ VRel φ' v' cv ∧ GI (baseOf σ φ ψ w) φ' ψ' (getB σ') w' ∧ ∀ b, φ' b ≠ none → b < σ'.length := by
        obtain ⟨⟨φ1, ψ1, hg1, hd1, ht1⟩, _, hdf, _⟩ := hst'
        refine ⟨hdf, ?_⟩
        obtain ⟨us, hrun, hus⟩ := hvals φ1 ψ1 w' a'.tmps hg1.s ht1
        have hmap : (fn.results.mapM (resF a'.tmps)).run P w' = .ok us.toArray w' := by
          rw [Array.mapM_eq_mapM_toList]
          simp only [Sem.run_map, hrun, Result.andThen_ok]
        have hone : ∃ cv, (results fn a'.tmps).run P w' = .ok cv w' ∧ VRel φ1 (one vs) cv := by
          rw [results_eq]
          simp only [Sem.run_bind, hmap, Result.andThen_ok, Sem.run_pure]
          refine ⟨_, rfl, ?_⟩
          have hl := hus.length
          cases vs with
          | nil =>
            simp only [VRels] at hus; subst hus
            simp only [one, VRel, VRels]
            exact ⟨[], by simp, rfl⟩
          | cons x vs =>
            cases vs with
            | nil =>
              simp only [VRels] at hus
              obtain ⟨u, us', rfl, hu, rfl⟩ := hus
              simpa [one] using hu
            | cons y vs =>
              have hne : ¬ us.toArray.size = 1 := by simp [hl]
              rw [dif_neg hne]
              simp only [one, VRel]
              exact ⟨us, rfl, hus⟩
        obtain ⟨cv, hr, hcv⟩ := hone
        obtain ⟨φ2, ψ2, h1, h2, h3⟩ := hfs (baseOf σ φ ψ w) φ1 ψ1 w' cv rfl hg1 hd1 hcv
        exact ⟨cv, hr, φ2, ψ2, cv, rfl, h1, h2, h3⟩
      rcases he with rfl | rfl
      · exact hpost
      · exact hpost
end Go.Proofs.YtdgipcjigbagfaaGreat.AB
