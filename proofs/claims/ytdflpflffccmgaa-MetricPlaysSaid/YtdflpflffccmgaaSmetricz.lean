/- Two windows, the program's and the document's, shut. -/
import Derived.Test.YtdflpflffccmgaaSmref
namespace Go.Proofs.Ytdflpflffccmgaa.AB
set_option linter.unusedVariables false
noncomputable def Z_mnew_p : {f : ∀ (c : Cf), Option ((Unit) ⊕ (Cf × Rg × Rg)) // f = fun (c : Cf) => S.mnew_p c} := Classical.choice ⟨⟨_, rfl⟩⟩
noncomputable def S.q_mnew_p (c : Cf) : Option ((Unit) ⊕ (Cf × Rg × Rg)) := Z_mnew_p.1 c
theorem S.q_mnew_p_eq (c : Cf) : S.q_mnew_p c = S.mnew_p c := by unfold S.q_mnew_p; rw [Z_mnew_p.2]
noncomputable def H11s : Hnd := fun R args σ k => match args, σ with
  | [.agg [.int .i64 target_, .int .i64 util_, .int .i64 stable_, .int .i64 panic_, .int .i64 grain_, .int .i64 threshold_, .int .i64 up_, .int .i64 down_, .int .i64 min_, .int .i64 max_, .int .i64 initial_, .int .i64 grace_, .int .i64 delay_, .int .i64 burst_, .int .i64 limit_, .int .i64 queue_, .int .i64 timeout_, .int .i64 ready_, .int .i64 subset_, .int .i64 sample_]], [] => oK (Sum.elim (fun v : Unit => k .nilp []) (fun v : Cf × Rg × Rg => k (.ptr 0 (0) 0) [(.var [(.int .i64 (v.1.target)), (.int .i64 (v.1.util)), (.int .i64 (v.1.stable)), (.int .i64 (v.1.panic)), (.int .i64 (v.1.grain)), (.int .i64 (v.1.threshold)), (.int .i64 (v.1.up)), (.int .i64 (v.1.down)), (.int .i64 (v.1.min)), (.int .i64 (v.1.max)), (.int .i64 (v.1.initial)), (.int .i64 (v.1.grace)), (.int .i64 (v.1.delay)), (.int .i64 (v.1.burst)), (.int .i64 (v.1.limit)), (.int .i64 (v.1.queue)), (.int .i64 (v.1.timeout)), (.int .i64 (v.1.ready)), (.int .i64 (v.1.subset)), (.int .i64 (v.1.sample)), (.iface 56 (.ptr 1 (0) 0)), (.iface 56 (.ptr 3 (0) 0)), (.bool (false))]), (.var [(.slice 1 2 (v.2.1.lo) (v.2.1.len) none), (.int .i64 (v.2.1.w)), (.int .i64 (v.2.1.g)), (.int .i64 (v.2.1.n)), (.int .i64 (v.2.1.nw)), (.bool (v.2.1.ov))]), (.fam 80 (Cd.pair (Cd.int .i64) (Cd.pair (Cd.int .i64) (Cd.pair (Cd.int .i64) Cd.bool))) (v.2.1.l) (v.2.1.f)), (.var [(.slice 1 4 (v.2.2.lo) (v.2.2.len) none), (.int .i64 (v.2.2.w)), (.int .i64 (v.2.2.g)), (.int .i64 (v.2.2.n)), (.int .i64 (v.2.2.nw)), (.bool (v.2.2.ov))]), (.fam 80 (Cd.pair (Cd.int .i64) (Cd.pair (Cd.int .i64) (Cd.pair (Cd.int .i64) Cd.bool))) (v.2.2.l) (v.2.2.f))])) (S.q_mnew_p ⟨target_, util_, stable_, panic_, grain_, threshold_, up_, down_, min_, max_, initial_, grace_, delay_, burst_, limit_, queue_, timeout_, ready_, subset_, sample_⟩)
  | _, _ => none
theorem H11s_ok : HndOk Try.prog 11 H11s := hnd_ok tis tisOk mixOk G40_ok F11 Try.func11 rfl (by
  intro R args σ k r h
  unfold H11s at h
  split at h
  · rename_i target_ util_ stable_ panic_ grain_ threshold_ up_ down_ min_ max_ initial_ grace_ delay_ burst_ limit_ queue_ timeout_ ready_ subset_ sample_; exact ⟨0, (S.mnew_v ⟨target_, util_, stable_, panic_, grain_, threshold_, up_, down_, min_, max_, initial_, grace_, delay_, burst_, limit_, queue_, timeout_, ready_, subset_, sample_⟩ _).trans (keep_lift (fun a b e => by rcases a with a | a | a | a | a <;> first | (cases e; rfl) | cases e) ((congrArg (oK _) (S.q_mnew_p_eq ⟨target_, util_, stable_, panic_, grain_, threshold_, up_, down_, min_, max_, initial_, grace_, delay_, burst_, limit_, queue_, timeout_, ready_, subset_, sample_⟩).symm).trans h))⟩
  · cases h)
noncomputable def G11s : Env := Env.add 11 H11s G17
theorem G11s_ok : EnvOk Try.prog G11s := envAdd_ok H11s_ok G17_ok
noncomputable def Z_mput : {f : ∀ (c : Cf) (mo : Bool) (R0 : Rg) (R1 : Rg) (t v : Int), Option (Int × Cf × Bool × Rg × Rg) // f = fun (c : Cf) (mo : Bool) (R0 : Rg) (R1 : Rg) (t v : Int) => S.mput c mo R0 R1 t v} := Classical.choice ⟨⟨_, rfl⟩⟩
noncomputable def S.q_mput (c : Cf) (mo : Bool) (R0 : Rg) (R1 : Rg) (t v : Int) : Option (Int × Cf × Bool × Rg × Rg) := Z_mput.1 c mo R0 R1 t v
theorem S.q_mput_eq (c : Cf) (mo : Bool) (R0 : Rg) (R1 : Rg) (t v : Int) : S.q_mput c mo R0 R1 t v = S.mput c mo R0 R1 t v := by unfold S.q_mput; rw [Z_mput.2]
theorem S.q_mput_v {R : Type} (c : Cf) (mo : Bool) (R0 : Rg) (R1 : Rg) (t v : Int) (k : AVal → List Blk → Option R) : fnEval tis F14 0 G33 Try.f14 [.ptr 0 0 0, .int .i64 t, .int .i64 v] [.var [.int .i64 c.target, .int .i64 c.util, .int .i64 c.stable, .int .i64 c.panic, .int .i64 c.grain, .int .i64 c.threshold, .int .i64 c.up, .int .i64 c.down, .int .i64 c.min, .int .i64 c.max, .int .i64 c.initial, .int .i64 c.grace, .int .i64 c.delay, .int .i64 c.burst, .int .i64 c.limit, .int .i64 c.queue, .int .i64 c.timeout, .int .i64 c.ready, .int .i64 c.subset, .int .i64 c.sample, .iface 56 (.ptr 1 0 0), .iface 56 (.ptr 3 0 0), .bool mo], .var [.slice 1 2 R0.lo R0.len none, .int .i64 R0.w, .int .i64 R0.g, .int .i64 R0.n, .int .i64 R0.nw, .bool R0.ov], .fam 80 (.pair (.int .i64) (.pair (.int .i64) (.pair (.int .i64) .bool))) R0.l R0.f, .var [.slice 1 4 R1.lo R1.len none, .int .i64 R1.w, .int .i64 R1.g, .int .i64 R1.n, .int .i64 R1.nw, .bool R1.ov], .fam 80 (.pair (.int .i64) (.pair (.int .i64) (.pair (.int .i64) .bool))) R1.l R1.f] k = oK (fun v : Int × Cf × Bool × Rg × Rg => k (.int .i64 v.1) [(.var [(.int .i64 (v.2.1.target)), (.int .i64 (v.2.1.util)), (.int .i64 (v.2.1.stable)), (.int .i64 (v.2.1.panic)), (.int .i64 (v.2.1.grain)), (.int .i64 (v.2.1.threshold)), (.int .i64 (v.2.1.up)), (.int .i64 (v.2.1.down)), (.int .i64 (v.2.1.min)), (.int .i64 (v.2.1.max)), (.int .i64 (v.2.1.initial)), (.int .i64 (v.2.1.grace)), (.int .i64 (v.2.1.delay)), (.int .i64 (v.2.1.burst)), (.int .i64 (v.2.1.limit)), (.int .i64 (v.2.1.queue)), (.int .i64 (v.2.1.timeout)), (.int .i64 (v.2.1.ready)), (.int .i64 (v.2.1.subset)), (.int .i64 (v.2.1.sample)), (.iface 56 (.ptr 1 (0) 0)), (.iface 56 (.ptr 3 (0) 0)), (.bool v.2.2.1)]), (.var [(.slice 1 5 (v.2.2.2.1.lo) (v.2.2.2.1.len) none), (.int .i64 (v.2.2.2.1.w)), (.int .i64 (v.2.2.2.1.g)), (.int .i64 (v.2.2.2.1.n)), (.int .i64 (v.2.2.2.1.nw)), (.bool (v.2.2.2.1.ov))]), .dead, (.var [(.slice 1 6 (v.2.2.2.2.lo) (v.2.2.2.2.len) none), (.int .i64 (v.2.2.2.2.w)), (.int .i64 (v.2.2.2.2.g)), (.int .i64 (v.2.2.2.2.n)), (.int .i64 (v.2.2.2.2.nw)), (.bool (v.2.2.2.2.ov))]), .dead, (.fam 80 (Cd.pair (Cd.int .i64) (Cd.pair (Cd.int .i64) (Cd.pair (Cd.int .i64) Cd.bool))) (v.2.2.2.1.l) (v.2.2.2.1.f)), (.fam 80 (Cd.pair (Cd.int .i64) (Cd.pair (Cd.int .i64) (Cd.pair (Cd.int .i64) Cd.bool))) (v.2.2.2.2.l) (v.2.2.2.2.f))]) (S.q_mput c mo R0 R1 t v) :=
  (S.mput_v c mo R0 R1 t v k).trans (by rw [S.q_mput_eq])
noncomputable def Z_mput1 : {f : ∀ (t v : Int), Int // f = fun (t v : Int) => S.mput1 t v} := Classical.choice ⟨⟨_, rfl⟩⟩
noncomputable def S.q_mput1 (t v : Int) : Int := Z_mput1.1 t v
theorem S.q_mput1_eq (t v : Int) : S.q_mput1 t v = S.mput1 t v := by unfold S.q_mput1; rw [Z_mput1.2]
theorem S.q_mput1_v {R : Type} (t v : Int) (k : AVal → List Blk → Option R) : fnEval tis F14 0 G33 Try.f14 [.nilp, .int .i64 t, .int .i64 v] [] k = k (.int .i64 (S.q_mput1 t v)) [] :=
  (S.mput1_v t v k).trans (by rw [S.q_mput1_eq])
noncomputable def H14s : Hnd := fun R args σ k => match args with
  | [.ptr 0 0 0, .int .i64 t, .int .i64 v] => (match rdMet σ with | some (c, mo, R0, R1) => oK (fun v : Int × Cf × Bool × Rg × Rg => k (.int .i64 v.1) [(.var [(.int .i64 (v.2.1.target)), (.int .i64 (v.2.1.util)), (.int .i64 (v.2.1.stable)), (.int .i64 (v.2.1.panic)), (.int .i64 (v.2.1.grain)), (.int .i64 (v.2.1.threshold)), (.int .i64 (v.2.1.up)), (.int .i64 (v.2.1.down)), (.int .i64 (v.2.1.min)), (.int .i64 (v.2.1.max)), (.int .i64 (v.2.1.initial)), (.int .i64 (v.2.1.grace)), (.int .i64 (v.2.1.delay)), (.int .i64 (v.2.1.burst)), (.int .i64 (v.2.1.limit)), (.int .i64 (v.2.1.queue)), (.int .i64 (v.2.1.timeout)), (.int .i64 (v.2.1.ready)), (.int .i64 (v.2.1.subset)), (.int .i64 (v.2.1.sample)), (.iface 56 (.ptr 1 (0) 0)), (.iface 56 (.ptr 3 (0) 0)), (.bool v.2.2.1)]), (.var [(.slice 1 5 (v.2.2.2.1.lo) (v.2.2.2.1.len) none), (.int .i64 (v.2.2.2.1.w)), (.int .i64 (v.2.2.2.1.g)), (.int .i64 (v.2.2.2.1.n)), (.int .i64 (v.2.2.2.1.nw)), (.bool (v.2.2.2.1.ov))]), .dead, (.var [(.slice 1 6 (v.2.2.2.2.lo) (v.2.2.2.2.len) none), (.int .i64 (v.2.2.2.2.w)), (.int .i64 (v.2.2.2.2.g)), (.int .i64 (v.2.2.2.2.n)), (.int .i64 (v.2.2.2.2.nw)), (.bool (v.2.2.2.2.ov))]), .dead, (.fam 80 (Cd.pair (Cd.int .i64) (Cd.pair (Cd.int .i64) (Cd.pair (Cd.int .i64) Cd.bool))) (v.2.2.2.1.l) (v.2.2.2.1.f)), (.fam 80 (Cd.pair (Cd.int .i64) (Cd.pair (Cd.int .i64) (Cd.pair (Cd.int .i64) Cd.bool))) (v.2.2.2.2.l) (v.2.2.2.2.f))]) (S.q_mput c mo R0 R1 t v) | none => none)
  | [.nilp, .int .i64 t, .int .i64 v] => (match σ with | [] => k (.int .i64 (S.q_mput1 t v)) [] | _ => none)
  | _ => none
theorem H14s_ok : HndOk Try.prog 14 H14s := hnd_ok tis tisOk mixOk G33_ok F14 Try.func14 rfl (by
  intro R args σ k r h
  unfold H14s at h
  split at h
  · rename_i t v; cases hd : rdMet σ with
    | none => simp only [hd] at h; cases h
    | some q0 =>
      obtain ⟨c, mo, R0, R1⟩ := q0
      simp only [hd] at h
      have e := rdMet_spec hd; subst e
      exact ⟨0, (S.q_mput_v c mo R0 R1 t v _).trans h⟩
  · rename_i t v; split at h
    · exact ⟨0, (S.q_mput1_v t v _).trans h⟩
    · cases h
  · cases h)
noncomputable def G14s : Env := Env.add 14 H14s G11s
theorem G14s_ok : EnvOk Try.prog G14s := envAdd_ok H14s_ok G11s_ok
noncomputable def Z_mmeans : {f : ∀ (c : Cf) (mo : Bool) (R0 : Rg) (R1 : Rg) (t : Int), Option (Int × Int × Cf × Bool × Rg × Rg) // f = fun (c : Cf) (mo : Bool) (R0 : Rg) (R1 : Rg) (t : Int) => S.mmeans c mo R0 R1 t} := Classical.choice ⟨⟨_, rfl⟩⟩
noncomputable def S.q_mmeans (c : Cf) (mo : Bool) (R0 : Rg) (R1 : Rg) (t : Int) : Option (Int × Int × Cf × Bool × Rg × Rg) := Z_mmeans.1 c mo R0 R1 t
theorem S.q_mmeans_eq (c : Cf) (mo : Bool) (R0 : Rg) (R1 : Rg) (t : Int) : S.q_mmeans c mo R0 R1 t = S.mmeans c mo R0 R1 t := by unfold S.q_mmeans; rw [Z_mmeans.2]
theorem S.q_mmeans_v {R : Type} (c : Cf) (mo : Bool) (R0 : Rg) (R1 : Rg) (t : Int) (k : AVal → List Blk → Option R) : fnEval tis F18 0 G14 Try.f18 [.ptr 0 0 0, .int .i64 t] [.var [.int .i64 c.target, .int .i64 c.util, .int .i64 c.stable, .int .i64 c.panic, .int .i64 c.grain, .int .i64 c.threshold, .int .i64 c.up, .int .i64 c.down, .int .i64 c.min, .int .i64 c.max, .int .i64 c.initial, .int .i64 c.grace, .int .i64 c.delay, .int .i64 c.burst, .int .i64 c.limit, .int .i64 c.queue, .int .i64 c.timeout, .int .i64 c.ready, .int .i64 c.subset, .int .i64 c.sample, .iface 56 (.ptr 1 0 0), .iface 56 (.ptr 3 0 0), .bool mo], .var [.slice 1 2 R0.lo R0.len none, .int .i64 R0.w, .int .i64 R0.g, .int .i64 R0.n, .int .i64 R0.nw, .bool R0.ov], .fam 80 (.pair (.int .i64) (.pair (.int .i64) (.pair (.int .i64) .bool))) R0.l R0.f, .var [.slice 1 4 R1.lo R1.len none, .int .i64 R1.w, .int .i64 R1.g, .int .i64 R1.n, .int .i64 R1.nw, .bool R1.ov], .fam 80 (.pair (.int .i64) (.pair (.int .i64) (.pair (.int .i64) .bool))) R1.l R1.f] k = oK (fun v : Int × Int × Cf × Bool × Rg × Rg => k (.tuple [(.int .i64 v.1), (.int .i64 v.2.1)]) [(.var [(.int .i64 (v.2.2.1.target)), (.int .i64 (v.2.2.1.util)), (.int .i64 (v.2.2.1.stable)), (.int .i64 (v.2.2.1.panic)), (.int .i64 (v.2.2.1.grain)), (.int .i64 (v.2.2.1.threshold)), (.int .i64 (v.2.2.1.up)), (.int .i64 (v.2.2.1.down)), (.int .i64 (v.2.2.1.min)), (.int .i64 (v.2.2.1.max)), (.int .i64 (v.2.2.1.initial)), (.int .i64 (v.2.2.1.grace)), (.int .i64 (v.2.2.1.delay)), (.int .i64 (v.2.2.1.burst)), (.int .i64 (v.2.2.1.limit)), (.int .i64 (v.2.2.1.queue)), (.int .i64 (v.2.2.1.timeout)), (.int .i64 (v.2.2.1.ready)), (.int .i64 (v.2.2.1.subset)), (.int .i64 (v.2.2.1.sample)), (.iface 56 (.ptr 1 (0) 0)), (.iface 56 (.ptr 3 (0) 0)), (.bool v.2.2.2.1)]), (.var [(.slice 1 2 (v.2.2.2.2.1.lo) (v.2.2.2.2.1.len) none), (.int .i64 (v.2.2.2.2.1.w)), (.int .i64 (v.2.2.2.2.1.g)), (.int .i64 (v.2.2.2.2.1.n)), (.int .i64 (v.2.2.2.2.1.nw)), (.bool (v.2.2.2.2.1.ov))]), (.fam 80 (Cd.pair (Cd.int .i64) (Cd.pair (Cd.int .i64) (Cd.pair (Cd.int .i64) Cd.bool))) (v.2.2.2.2.1.l) (v.2.2.2.2.1.f)), (.var [(.slice 1 4 (v.2.2.2.2.2.lo) (v.2.2.2.2.2.len) none), (.int .i64 (v.2.2.2.2.2.w)), (.int .i64 (v.2.2.2.2.2.g)), (.int .i64 (v.2.2.2.2.2.n)), (.int .i64 (v.2.2.2.2.2.nw)), (.bool (v.2.2.2.2.2.ov))]), (.fam 80 (Cd.pair (Cd.int .i64) (Cd.pair (Cd.int .i64) (Cd.pair (Cd.int .i64) Cd.bool))) (v.2.2.2.2.2.l) (v.2.2.2.2.2.f))]) (S.q_mmeans c mo R0 R1 t) :=
  (S.mmeans_v c mo R0 R1 t k).trans (by rw [S.q_mmeans_eq])
noncomputable def Z_mmeans1 : {f : ∀ (t : Int), Int × Int // f = fun (t : Int) => S.mmeans1 t} := Classical.choice ⟨⟨_, rfl⟩⟩
noncomputable def S.q_mmeans1 (t : Int) : Int × Int := Z_mmeans1.1 t
theorem S.q_mmeans1_eq (t : Int) : S.q_mmeans1 t = S.mmeans1 t := by unfold S.q_mmeans1; rw [Z_mmeans1.2]
theorem S.q_mmeans1_v {R : Type} (t : Int) (k : AVal → List Blk → Option R) : fnEval tis F18 0 G14 Try.f18 [.nilp, .int .i64 t] [] k = k (.tuple [(.int .i64 (S.q_mmeans1 t).1), (.int .i64 (S.q_mmeans1 t).2)]) [] :=
  (S.mmeans1_v t k).trans (by rw [S.q_mmeans1_eq])
noncomputable def H18s : Hnd := fun R args σ k => match args with
  | [.ptr 0 0 0, .int .i64 t] => (match rdMet σ with | some (c, mo, R0, R1) => oK (fun v : Int × Int × Cf × Bool × Rg × Rg => k (.tuple [(.int .i64 v.1), (.int .i64 v.2.1)]) [(.var [(.int .i64 (v.2.2.1.target)), (.int .i64 (v.2.2.1.util)), (.int .i64 (v.2.2.1.stable)), (.int .i64 (v.2.2.1.panic)), (.int .i64 (v.2.2.1.grain)), (.int .i64 (v.2.2.1.threshold)), (.int .i64 (v.2.2.1.up)), (.int .i64 (v.2.2.1.down)), (.int .i64 (v.2.2.1.min)), (.int .i64 (v.2.2.1.max)), (.int .i64 (v.2.2.1.initial)), (.int .i64 (v.2.2.1.grace)), (.int .i64 (v.2.2.1.delay)), (.int .i64 (v.2.2.1.burst)), (.int .i64 (v.2.2.1.limit)), (.int .i64 (v.2.2.1.queue)), (.int .i64 (v.2.2.1.timeout)), (.int .i64 (v.2.2.1.ready)), (.int .i64 (v.2.2.1.subset)), (.int .i64 (v.2.2.1.sample)), (.iface 56 (.ptr 1 (0) 0)), (.iface 56 (.ptr 3 (0) 0)), (.bool v.2.2.2.1)]), (.var [(.slice 1 2 (v.2.2.2.2.1.lo) (v.2.2.2.2.1.len) none), (.int .i64 (v.2.2.2.2.1.w)), (.int .i64 (v.2.2.2.2.1.g)), (.int .i64 (v.2.2.2.2.1.n)), (.int .i64 (v.2.2.2.2.1.nw)), (.bool (v.2.2.2.2.1.ov))]), (.fam 80 (Cd.pair (Cd.int .i64) (Cd.pair (Cd.int .i64) (Cd.pair (Cd.int .i64) Cd.bool))) (v.2.2.2.2.1.l) (v.2.2.2.2.1.f)), (.var [(.slice 1 4 (v.2.2.2.2.2.lo) (v.2.2.2.2.2.len) none), (.int .i64 (v.2.2.2.2.2.w)), (.int .i64 (v.2.2.2.2.2.g)), (.int .i64 (v.2.2.2.2.2.n)), (.int .i64 (v.2.2.2.2.2.nw)), (.bool (v.2.2.2.2.2.ov))]), (.fam 80 (Cd.pair (Cd.int .i64) (Cd.pair (Cd.int .i64) (Cd.pair (Cd.int .i64) Cd.bool))) (v.2.2.2.2.2.l) (v.2.2.2.2.2.f))]) (S.q_mmeans c mo R0 R1 t) | none => none)
  | [.nilp, .int .i64 t] => (match σ with | [] => k (.tuple [(.int .i64 (S.q_mmeans1 t).1), (.int .i64 (S.q_mmeans1 t).2)]) [] | _ => none)
  | _ => none
theorem H18s_ok : HndOk Try.prog 18 H18s := hnd_ok tis tisOk mixOk G14_ok F18 Try.func18 rfl (by
  intro R args σ k r h
  unfold H18s at h
  split at h
  · rename_i t; cases hd : rdMet σ with
    | none => simp only [hd] at h; cases h
    | some q0 =>
      obtain ⟨c, mo, R0, R1⟩ := q0
      simp only [hd] at h
      have e := rdMet_spec hd; subst e
      exact ⟨0, (S.q_mmeans_v c mo R0 R1 t _).trans h⟩
  · rename_i t; split at h
    · exact ⟨0, (S.q_mmeans1_v t _).trans h⟩
    · cases h
  · cases h)
noncomputable def G18s : Env := Env.add 18 H18s G14s
theorem G18s_ok : EnvOk Try.prog G18s := envAdd_ok H18s_ok G14s_ok
noncomputable def Z_mchange : {f : ∀ (c : Cf) (mo : Bool) (R0 : Rg) (R1 : Rg) (d : Cf), Option (Int × Cf × Bool × Rg × Rg) // f = fun (c : Cf) (mo : Bool) (R0 : Rg) (R1 : Rg) (d : Cf) => S.mchange c mo R0 R1 d} := Classical.choice ⟨⟨_, rfl⟩⟩
noncomputable def S.q_mchange (c : Cf) (mo : Bool) (R0 : Rg) (R1 : Rg) (d : Cf) : Option (Int × Cf × Bool × Rg × Rg) := Z_mchange.1 c mo R0 R1 d
theorem S.q_mchange_eq (c : Cf) (mo : Bool) (R0 : Rg) (R1 : Rg) (d : Cf) : S.q_mchange c mo R0 R1 d = S.mchange c mo R0 R1 d := by unfold S.q_mchange; rw [Z_mchange.2]
theorem S.q_mchange_v {R : Type} (c : Cf) (mo : Bool) (R0 : Rg) (R1 : Rg) (d : Cf) (k : AVal → List Blk → Option R) : fnEval tis F16 0 G20 Try.f16 [.ptr 0 0 0, .agg (cfA d)] [.var [.int .i64 c.target, .int .i64 c.util, .int .i64 c.stable, .int .i64 c.panic, .int .i64 c.grain, .int .i64 c.threshold, .int .i64 c.up, .int .i64 c.down, .int .i64 c.min, .int .i64 c.max, .int .i64 c.initial, .int .i64 c.grace, .int .i64 c.delay, .int .i64 c.burst, .int .i64 c.limit, .int .i64 c.queue, .int .i64 c.timeout, .int .i64 c.ready, .int .i64 c.subset, .int .i64 c.sample, .iface 56 (.ptr 1 0 0), .iface 56 (.ptr 3 0 0), .bool mo], .var [.slice 1 2 R0.lo R0.len none, .int .i64 R0.w, .int .i64 R0.g, .int .i64 R0.n, .int .i64 R0.nw, .bool R0.ov], .fam 80 (.pair (.int .i64) (.pair (.int .i64) (.pair (.int .i64) .bool))) R0.l R0.f, .var [.slice 1 4 R1.lo R1.len none, .int .i64 R1.w, .int .i64 R1.g, .int .i64 R1.n, .int .i64 R1.nw, .bool R1.ov], .fam 80 (.pair (.int .i64) (.pair (.int .i64) (.pair (.int .i64) .bool))) R1.l R1.f] k = oK (fun v : Int × Cf × Bool × Rg × Rg => k (.int .i64 v.1) [(.var [(.int .i64 (v.2.1.target)), (.int .i64 (v.2.1.util)), (.int .i64 (v.2.1.stable)), (.int .i64 (v.2.1.panic)), (.int .i64 (v.2.1.grain)), (.int .i64 (v.2.1.threshold)), (.int .i64 (v.2.1.up)), (.int .i64 (v.2.1.down)), (.int .i64 (v.2.1.min)), (.int .i64 (v.2.1.max)), (.int .i64 (v.2.1.initial)), (.int .i64 (v.2.1.grace)), (.int .i64 (v.2.1.delay)), (.int .i64 (v.2.1.burst)), (.int .i64 (v.2.1.limit)), (.int .i64 (v.2.1.queue)), (.int .i64 (v.2.1.timeout)), (.int .i64 (v.2.1.ready)), (.int .i64 (v.2.1.subset)), (.int .i64 (v.2.1.sample)), (.iface 56 (.ptr 5 (0) 0)), (.iface 56 (.ptr 7 (0) 0)), (.bool v.2.2.1)]), .dead, .dead, .dead, .dead, (.var [(.slice 1 6 (v.2.2.2.1.lo) (v.2.2.2.1.len) none), (.int .i64 (v.2.2.2.1.w)), (.int .i64 (v.2.2.2.1.g)), (.int .i64 (v.2.2.2.1.n)), (.int .i64 (v.2.2.2.1.nw)), (.bool (v.2.2.2.1.ov))]), (.fam 80 (Cd.pair (Cd.int .i64) (Cd.pair (Cd.int .i64) (Cd.pair (Cd.int .i64) Cd.bool))) (v.2.2.2.1.l) (v.2.2.2.1.f)), (.var [(.slice 1 8 (v.2.2.2.2.lo) (v.2.2.2.2.len) none), (.int .i64 (v.2.2.2.2.w)), (.int .i64 (v.2.2.2.2.g)), (.int .i64 (v.2.2.2.2.n)), (.int .i64 (v.2.2.2.2.nw)), (.bool (v.2.2.2.2.ov))]), (.fam 80 (Cd.pair (Cd.int .i64) (Cd.pair (Cd.int .i64) (Cd.pair (Cd.int .i64) Cd.bool))) (v.2.2.2.2.l) (v.2.2.2.2.f))]) (S.q_mchange c mo R0 R1 d) :=
  (S.mchange_v c mo R0 R1 d k).trans (by rw [S.q_mchange_eq])
noncomputable def Z_mchange1 : {f : ∀ (c : Cf), Int // f = fun (c : Cf) => S.mchange1 c} := Classical.choice ⟨⟨_, rfl⟩⟩
noncomputable def S.q_mchange1 (c : Cf) : Int := Z_mchange1.1 c
theorem S.q_mchange1_eq (c : Cf) : S.q_mchange1 c = S.mchange1 c := by unfold S.q_mchange1; rw [Z_mchange1.2]
theorem S.q_mchange1_v {R : Type} (c : Cf) (k : AVal → List Blk → Option R) : fnEval tis F16 0 G20 Try.f16 [.nilp, .agg (cfA c)] [] k = k (.int .i64 (S.q_mchange1 c)) [] :=
  (S.mchange1_v c k).trans (by rw [S.q_mchange1_eq])
noncomputable def H16s : Hnd := fun R args σ k => match args with
  | [.ptr 0 0 0, .agg [.int .i64 target_, .int .i64 util_, .int .i64 stable_, .int .i64 panic_, .int .i64 grain_, .int .i64 threshold_, .int .i64 up_, .int .i64 down_, .int .i64 min_, .int .i64 max_, .int .i64 initial_, .int .i64 grace_, .int .i64 delay_, .int .i64 burst_, .int .i64 limit_, .int .i64 queue_, .int .i64 timeout_, .int .i64 ready_, .int .i64 subset_, .int .i64 sample_]] => (match rdMet σ with | some (c, mo, R0, R1) => oK (fun v : Int × Cf × Bool × Rg × Rg => k (.int .i64 v.1) [(.var [(.int .i64 (v.2.1.target)), (.int .i64 (v.2.1.util)), (.int .i64 (v.2.1.stable)), (.int .i64 (v.2.1.panic)), (.int .i64 (v.2.1.grain)), (.int .i64 (v.2.1.threshold)), (.int .i64 (v.2.1.up)), (.int .i64 (v.2.1.down)), (.int .i64 (v.2.1.min)), (.int .i64 (v.2.1.max)), (.int .i64 (v.2.1.initial)), (.int .i64 (v.2.1.grace)), (.int .i64 (v.2.1.delay)), (.int .i64 (v.2.1.burst)), (.int .i64 (v.2.1.limit)), (.int .i64 (v.2.1.queue)), (.int .i64 (v.2.1.timeout)), (.int .i64 (v.2.1.ready)), (.int .i64 (v.2.1.subset)), (.int .i64 (v.2.1.sample)), (.iface 56 (.ptr 5 (0) 0)), (.iface 56 (.ptr 7 (0) 0)), (.bool v.2.2.1)]), .dead, .dead, .dead, .dead, (.var [(.slice 1 6 (v.2.2.2.1.lo) (v.2.2.2.1.len) none), (.int .i64 (v.2.2.2.1.w)), (.int .i64 (v.2.2.2.1.g)), (.int .i64 (v.2.2.2.1.n)), (.int .i64 (v.2.2.2.1.nw)), (.bool (v.2.2.2.1.ov))]), (.fam 80 (Cd.pair (Cd.int .i64) (Cd.pair (Cd.int .i64) (Cd.pair (Cd.int .i64) Cd.bool))) (v.2.2.2.1.l) (v.2.2.2.1.f)), (.var [(.slice 1 8 (v.2.2.2.2.lo) (v.2.2.2.2.len) none), (.int .i64 (v.2.2.2.2.w)), (.int .i64 (v.2.2.2.2.g)), (.int .i64 (v.2.2.2.2.n)), (.int .i64 (v.2.2.2.2.nw)), (.bool (v.2.2.2.2.ov))]), (.fam 80 (Cd.pair (Cd.int .i64) (Cd.pair (Cd.int .i64) (Cd.pair (Cd.int .i64) Cd.bool))) (v.2.2.2.2.l) (v.2.2.2.2.f))]) (S.q_mchange c mo R0 R1 ⟨target_, util_, stable_, panic_, grain_, threshold_, up_, down_, min_, max_, initial_, grace_, delay_, burst_, limit_, queue_, timeout_, ready_, subset_, sample_⟩) | none => none)
  | [.nilp, .agg [.int .i64 target_, .int .i64 util_, .int .i64 stable_, .int .i64 panic_, .int .i64 grain_, .int .i64 threshold_, .int .i64 up_, .int .i64 down_, .int .i64 min_, .int .i64 max_, .int .i64 initial_, .int .i64 grace_, .int .i64 delay_, .int .i64 burst_, .int .i64 limit_, .int .i64 queue_, .int .i64 timeout_, .int .i64 ready_, .int .i64 subset_, .int .i64 sample_]] => (match σ with | [] => k (.int .i64 (S.q_mchange1 ⟨target_, util_, stable_, panic_, grain_, threshold_, up_, down_, min_, max_, initial_, grace_, delay_, burst_, limit_, queue_, timeout_, ready_, subset_, sample_⟩)) [] | _ => none)
  | _ => none
theorem H16s_ok : HndOk Try.prog 16 H16s := hnd_ok tis tisOk mixOk G20_ok F16 Try.func16 rfl (by
  intro R args σ k r h
  unfold H16s at h
  split at h
  · rename_i target_ util_ stable_ panic_ grain_ threshold_ up_ down_ min_ max_ initial_ grace_ delay_ burst_ limit_ queue_ timeout_ ready_ subset_ sample_; cases hd : rdMet σ with
    | none => simp only [hd] at h; cases h
    | some q0 =>
      obtain ⟨c, mo, R0, R1⟩ := q0
      simp only [hd] at h
      have e := rdMet_spec hd; subst e
      exact ⟨0, (S.q_mchange_v c mo R0 R1 ⟨target_, util_, stable_, panic_, grain_, threshold_, up_, down_, min_, max_, initial_, grace_, delay_, burst_, limit_, queue_, timeout_, ready_, subset_, sample_⟩ _).trans h⟩
  · rename_i target_ util_ stable_ panic_ grain_ threshold_ up_ down_ min_ max_ initial_ grace_ delay_ burst_ limit_ queue_ timeout_ ready_ subset_ sample_; split at h
    · exact ⟨0, (S.q_mchange1_v ⟨target_, util_, stable_, panic_, grain_, threshold_, up_, down_, min_, max_, initial_, grace_, delay_, burst_, limit_, queue_, timeout_, ready_, subset_, sample_⟩ _).trans h⟩
    · cases h
  · cases h)
noncomputable def G16s : Env := Env.add 16 H16s G18s
theorem G16s_ok : EnvOk Try.prog G16s := envAdd_ok H16s_ok G18s_ok
noncomputable def Z_rmnew_p : {f : ∀ (c : Cf), Option ((Unit) ⊕ (Rr × Rr)) // f = fun (c : Cf) => S.rmnew_p c} := Classical.choice ⟨⟨_, rfl⟩⟩
noncomputable def S.q_rmnew_p (c : Cf) : Option ((Unit) ⊕ (Rr × Rr)) := Z_rmnew_p.1 c
theorem S.q_rmnew_p_eq (c : Cf) : S.q_rmnew_p c = S.rmnew_p c := by unfold S.q_rmnew_p; rw [Z_rmnew_p.2]
noncomputable def H12s : Hnd := fun R args σ k => match args, σ with
  | [.agg [.int .i64 target_, .int .i64 util_, .int .i64 stable_, .int .i64 panic_, .int .i64 grain_, .int .i64 threshold_, .int .i64 up_, .int .i64 down_, .int .i64 min_, .int .i64 max_, .int .i64 initial_, .int .i64 grace_, .int .i64 delay_, .int .i64 burst_, .int .i64 limit_, .int .i64 queue_, .int .i64 timeout_, .int .i64 ready_, .int .i64 subset_, .int .i64 sample_]], [] => oK (Sum.elim (fun v : Unit => k .nilp []) (fun v : Rr × Rr => k (.ptr 0 (0) 0) [(.var [(.ptr 1 (0) 0), (.ptr 3 (0) 0)]), (.var [(.int .i64 (v.1.w)), (.int .i64 (v.1.g)), (.slice 2 2 (v.1.lo) (v.1.len) none), (.int .i64 (v.1.nw)), (.bool (v.1.ov))]), (.rows (Cd.pair (Cd.int .i64) (Cd.int .i64)) (v.1.r) false), (.var [(.int .i64 (v.2.w)), (.int .i64 (v.2.g)), (.slice 2 4 (v.2.lo) (v.2.len) none), (.int .i64 (v.2.nw)), (.bool (v.2.ov))]), (.rows (Cd.pair (Cd.int .i64) (Cd.int .i64)) (v.2.r) false)])) (S.q_rmnew_p ⟨target_, util_, stable_, panic_, grain_, threshold_, up_, down_, min_, max_, initial_, grace_, delay_, burst_, limit_, queue_, timeout_, ready_, subset_, sample_⟩)
  | _, _ => none
theorem H12s_ok : HndOk Try.prog 12 H12s := hnd_ok tis tisOk mixOk G37_ok F12 Try.func12 rfl (by
  intro R args σ k r h
  unfold H12s at h
  split at h
  · rename_i target_ util_ stable_ panic_ grain_ threshold_ up_ down_ min_ max_ initial_ grace_ delay_ burst_ limit_ queue_ timeout_ ready_ subset_ sample_; exact ⟨0, (S.rmnew_v ⟨target_, util_, stable_, panic_, grain_, threshold_, up_, down_, min_, max_, initial_, grace_, delay_, burst_, limit_, queue_, timeout_, ready_, subset_, sample_⟩ _).trans (keep_lift (x := (some (S.rmnew ⟨target_, util_, stable_, panic_, grain_, threshold_, up_, down_, min_, max_, initial_, grace_, delay_, burst_, limit_, queue_, timeout_, ready_, subset_, sample_⟩))) (fun a b e => by rcases a with a | a | a | a | a <;> first | (cases e; rfl) | cases e) ((congrArg (oK _) (S.q_rmnew_p_eq ⟨target_, util_, stable_, panic_, grain_, threshold_, up_, down_, min_, max_, initial_, grace_, delay_, burst_, limit_, queue_, timeout_, ready_, subset_, sample_⟩).symm).trans h))⟩
  · cases h)
noncomputable def G12s : Env := Env.add 12 H12s G16s
theorem G12s_ok : EnvOk Try.prog G12s := envAdd_ok H12s_ok G16s_ok
noncomputable def Z_rmput : {f : ∀ (w0 g0 : Int) (lo0 len0 : Nat) (nw0 : Int) (ov0 : Bool) (r0 : RL) (w1 g1 : Int) (lo1 len1 : Nat) (nw1 : Int) (ov1 : Bool) (r1 : RL) (t v : Int), Option (Int × Rr × Rr) // f = fun (w0 g0 : Int) (lo0 len0 : Nat) (nw0 : Int) (ov0 : Bool) (r0 : RL) (w1 g1 : Int) (lo1 len1 : Nat) (nw1 : Int) (ov1 : Bool) (r1 : RL) (t v : Int) => S.rmput w0 g0 lo0 len0 nw0 ov0 r0 w1 g1 lo1 len1 nw1 ov1 r1 t v} := Classical.choice ⟨⟨_, rfl⟩⟩
noncomputable def S.q_rmput (w0 g0 : Int) (lo0 len0 : Nat) (nw0 : Int) (ov0 : Bool) (r0 : RL) (w1 g1 : Int) (lo1 len1 : Nat) (nw1 : Int) (ov1 : Bool) (r1 : RL) (t v : Int) : Option (Int × Rr × Rr) := Z_rmput.1 w0 g0 lo0 len0 nw0 ov0 r0 w1 g1 lo1 len1 nw1 ov1 r1 t v
theorem S.q_rmput_eq (w0 g0 : Int) (lo0 len0 : Nat) (nw0 : Int) (ov0 : Bool) (r0 : RL) (w1 g1 : Int) (lo1 len1 : Nat) (nw1 : Int) (ov1 : Bool) (r1 : RL) (t v : Int) : S.q_rmput w0 g0 lo0 len0 nw0 ov0 r0 w1 g1 lo1 len1 nw1 ov1 r1 t v = S.rmput w0 g0 lo0 len0 nw0 ov0 r0 w1 g1 lo1 len1 nw1 ov1 r1 t v := by unfold S.q_rmput; rw [Z_rmput.2]
theorem S.q_rmput_v {R : Type} (w0 g0 : Int) (lo0 len0 : Nat) (nw0 : Int) (ov0 : Bool) (r0 : RL) (w1 g1 : Int) (lo1 len1 : Nat) (nw1 : Int) (ov1 : Bool) (r1 : RL) (t v : Int) (k : AVal → List Blk → Option R) : fnEval tis F15 0 G12 Try.f15 [.ptr 0 0 0, .int .i64 t, .int .i64 v] [.var [.ptr 1 0 0, .ptr 3 0 0], .var [.int .i64 w0, .int .i64 g0, .slice 2 2 lo0 len0 none, .int .i64 nw0, .bool ov0], .rows (.pair (.int .i64) (.int .i64)) r0 false, .var [.int .i64 w1, .int .i64 g1, .slice 2 4 lo1 len1 none, .int .i64 nw1, .bool ov1], .rows (.pair (.int .i64) (.int .i64)) r1 false] k = oK (fun v : Int × Rr × Rr => k (.int .i64 v.1) [(.var [(.ptr 1 (0) 0), (.ptr 3 (0) 0)]), (.var [(.int .i64 (v.2.1.w)), (.int .i64 (v.2.1.g)), (.slice 2 5 (v.2.1.lo) (v.2.1.len) none), (.int .i64 (v.2.1.nw)), (.bool (v.2.1.ov))]), .dead, (.var [(.int .i64 (v.2.2.w)), (.int .i64 (v.2.2.g)), (.slice 2 6 (v.2.2.lo) (v.2.2.len) none), (.int .i64 (v.2.2.nw)), (.bool (v.2.2.ov))]), .dead, (.rows (Cd.pair (Cd.int .i64) (Cd.int .i64)) (v.2.1.r) false), (.rows (Cd.pair (Cd.int .i64) (Cd.int .i64)) (v.2.2.r) false)]) (S.q_rmput w0 g0 lo0 len0 nw0 ov0 r0 w1 g1 lo1 len1 nw1 ov1 r1 t v) :=
  (S.rmput_v w0 g0 lo0 len0 nw0 ov0 r0 w1 g1 lo1 len1 nw1 ov1 r1 t v k).trans (by rw [S.q_rmput_eq])
noncomputable def H15s : Hnd := fun R args σ k => match args, σ with
  | [.ptr 0 0 0, .int .i64 t, .int .i64 v], [.var [.ptr 1 0 0, .ptr 3 0 0], .var [.int .i64 w0, .int .i64 g0, .slice 2 2 lo0 len0 none, .int .i64 nw0, .bool ov0], .rows (.pair (.int .i64) (.int .i64)) r0 false, .var [.int .i64 w1, .int .i64 g1, .slice 2 4 lo1 len1 none, .int .i64 nw1, .bool ov1], .rows (.pair (.int .i64) (.int .i64)) r1 false] => oK (fun v : Int × Rr × Rr => k (.int .i64 v.1) [(.var [(.ptr 1 (0) 0), (.ptr 3 (0) 0)]), (.var [(.int .i64 (v.2.1.w)), (.int .i64 (v.2.1.g)), (.slice 2 5 (v.2.1.lo) (v.2.1.len) none), (.int .i64 (v.2.1.nw)), (.bool (v.2.1.ov))]), .dead, (.var [(.int .i64 (v.2.2.w)), (.int .i64 (v.2.2.g)), (.slice 2 6 (v.2.2.lo) (v.2.2.len) none), (.int .i64 (v.2.2.nw)), (.bool (v.2.2.ov))]), .dead, (.rows (Cd.pair (Cd.int .i64) (Cd.int .i64)) (v.2.1.r) false), (.rows (Cd.pair (Cd.int .i64) (Cd.int .i64)) (v.2.2.r) false)]) (S.q_rmput w0 g0 lo0 len0 nw0 ov0 r0 w1 g1 lo1 len1 nw1 ov1 r1 t v)
  | _, _ => none
theorem H15s_ok : HndOk Try.prog 15 H15s := hnd_ok tis tisOk mixOk G12_ok F15 Try.func15 rfl (by
  intro R args σ k r h
  unfold H15s at h
  split at h
  · rename_i t v w0 g0 lo0 len0 nw0 ov0 r0 w1 g1 lo1 len1 nw1 ov1 r1; exact ⟨0, (S.q_rmput_v w0 g0 lo0 len0 nw0 ov0 r0 w1 g1 lo1 len1 nw1 ov1 r1 t v _).trans h⟩
  · cases h)
noncomputable def G15s : Env := Env.add 15 H15s G12s
theorem G15s_ok : EnvOk Try.prog G15s := envAdd_ok H15s_ok G12s_ok
noncomputable def Z_rmchange_p : {f : ∀ (w0 g0 : Int) (lo0 len0 : Nat) (nw0 : Int) (ov0 : Bool) (r0 : RL) (w1 g1 : Int) (lo1 len1 : Nat) (nw1 : Int) (ov1 : Bool) (r1 : RL) (d : Cf), Option (Int × Rr × Rr) // f = fun (w0 g0 : Int) (lo0 len0 : Nat) (nw0 : Int) (ov0 : Bool) (r0 : RL) (w1 g1 : Int) (lo1 len1 : Nat) (nw1 : Int) (ov1 : Bool) (r1 : RL) (d : Cf) => S.rmchange_p w0 g0 lo0 len0 nw0 ov0 r0 w1 g1 lo1 len1 nw1 ov1 r1 d} := Classical.choice ⟨⟨_, rfl⟩⟩
noncomputable def S.q_rmchange_p (w0 g0 : Int) (lo0 len0 : Nat) (nw0 : Int) (ov0 : Bool) (r0 : RL) (w1 g1 : Int) (lo1 len1 : Nat) (nw1 : Int) (ov1 : Bool) (r1 : RL) (d : Cf) : Option (Int × Rr × Rr) := Z_rmchange_p.1 w0 g0 lo0 len0 nw0 ov0 r0 w1 g1 lo1 len1 nw1 ov1 r1 d
theorem S.q_rmchange_p_eq (w0 g0 : Int) (lo0 len0 : Nat) (nw0 : Int) (ov0 : Bool) (r0 : RL) (w1 g1 : Int) (lo1 len1 : Nat) (nw1 : Int) (ov1 : Bool) (r1 : RL) (d : Cf) : S.q_rmchange_p w0 g0 lo0 len0 nw0 ov0 r0 w1 g1 lo1 len1 nw1 ov1 r1 d = S.rmchange_p w0 g0 lo0 len0 nw0 ov0 r0 w1 g1 lo1 len1 nw1 ov1 r1 d := by unfold S.q_rmchange_p; rw [Z_rmchange_p.2]
noncomputable def H17s : Hnd := fun R args σ k => match args, σ with
  | [.ptr 0 0 0, .agg [.int .i64 target_, .int .i64 util_, .int .i64 stable_, .int .i64 panic_, .int .i64 grain_, .int .i64 threshold_, .int .i64 up_, .int .i64 down_, .int .i64 min_, .int .i64 max_, .int .i64 initial_, .int .i64 grace_, .int .i64 delay_, .int .i64 burst_, .int .i64 limit_, .int .i64 queue_, .int .i64 timeout_, .int .i64 ready_, .int .i64 subset_, .int .i64 sample_]], [.var [.ptr 1 0 0, .ptr 3 0 0], .var [.int .i64 w0, .int .i64 g0, .slice 2 2 lo0 len0 none, .int .i64 nw0, .bool ov0], .rows (.pair (.int .i64) (.int .i64)) r0 false, .var [.int .i64 w1, .int .i64 g1, .slice 2 4 lo1 len1 none, .int .i64 nw1, .bool ov1], .rows (.pair (.int .i64) (.int .i64)) r1 false] => oK (fun v : Int × Rr × Rr => k (.int .i64 v.1) [(.var [(.ptr 5 (0) 0), (.ptr 7 (0) 0)]), .dead, .dead, .dead, .dead, (.var [(.int .i64 (v.2.1.w)), (.int .i64 (v.2.1.g)), (.slice 2 6 (v.2.1.lo) (v.2.1.len) none), (.int .i64 (v.2.1.nw)), (.bool (v.2.1.ov))]), (.rows (Cd.pair (Cd.int .i64) (Cd.int .i64)) (v.2.1.r) false), (.var [(.int .i64 (v.2.2.w)), (.int .i64 (v.2.2.g)), (.slice 2 8 (v.2.2.lo) (v.2.2.len) none), (.int .i64 (v.2.2.nw)), (.bool (v.2.2.ov))]), (.rows (Cd.pair (Cd.int .i64) (Cd.int .i64)) (v.2.2.r) false)]) (S.q_rmchange_p w0 g0 lo0 len0 nw0 ov0 r0 w1 g1 lo1 len1 nw1 ov1 r1 ⟨target_, util_, stable_, panic_, grain_, threshold_, up_, down_, min_, max_, initial_, grace_, delay_, burst_, limit_, queue_, timeout_, ready_, subset_, sample_⟩)
  | _, _ => none
theorem H17s_ok : HndOk Try.prog 17 H17s := hnd_ok tis tisOk mixOk G21_ok F17 Try.func17 rfl (by
  intro R args σ k r h
  unfold H17s at h
  split at h
  · rename_i target_ util_ stable_ panic_ grain_ threshold_ up_ down_ min_ max_ initial_ grace_ delay_ burst_ limit_ queue_ timeout_ ready_ subset_ sample_ w0 g0 lo0 len0 nw0 ov0 r0 w1 g1 lo1 len1 nw1 ov1 r1; exact ⟨0, (S.rmchange_v w0 g0 lo0 len0 nw0 ov0 r0 w1 g1 lo1 len1 nw1 ov1 r1 ⟨target_, util_, stable_, panic_, grain_, threshold_, up_, down_, min_, max_, initial_, grace_, delay_, burst_, limit_, queue_, timeout_, ready_, subset_, sample_⟩ _).trans (keep_lift (fun a b e => by rcases a with a | a <;> first | (cases e; rfl) | cases e) ((congrArg (oK _) (S.q_rmchange_p_eq w0 g0 lo0 len0 nw0 ov0 r0 w1 g1 lo1 len1 nw1 ov1 r1 ⟨target_, util_, stable_, panic_, grain_, threshold_, up_, down_, min_, max_, initial_, grace_, delay_, burst_, limit_, queue_, timeout_, ready_, subset_, sample_⟩).symm).trans h))⟩
  · cases h)
noncomputable def G17s : Env := Env.add 17 H17s G15s
theorem G17s_ok : EnvOk Try.prog G17s := envAdd_ok H17s_ok G15s_ok
noncomputable def Z_rmean : {f : ∀ (r : RL) (lo len : Nat) (rw rg nw : Int) (ov : Bool) (t : Int), Option (Int × Int × Int × Nat × Nat × Int × Bool × List (Int × Int)) // f = fun (r : RL) (lo len : Nat) (rw rg nw : Int) (ov : Bool) (t : Int) => S.rmean r lo len rw rg nw ov t} := Classical.choice ⟨⟨_, rfl⟩⟩
noncomputable def S.q_rmean (r : RL) (lo len : Nat) (rw rg nw : Int) (ov : Bool) (t : Int) : Option (Int × Int × Int × Nat × Nat × Int × Bool × List (Int × Int)) := Z_rmean.1 r lo len rw rg nw ov t
theorem S.q_rmean_eq (r : RL) (lo len : Nat) (rw rg nw : Int) (ov : Bool) (t : Int) : S.q_rmean r lo len rw rg nw ov t = S.rmean r lo len rw rg nw ov t := by unfold S.q_rmean; rw [Z_rmean.2]
theorem S.q_rmean_v {R : Type} (r : RL) (lo len : Nat) (rw rg nw : Int) (ov : Bool) (t : Int) (k : AVal → List Blk → Option R) : fnEval tis F19 0 G39 Try.f19 [.ptr 0 0 0, .int .i64 t] [.var [.int .i64 rw, .int .i64 rg, .slice 2 1 lo len none, .int .i64 nw, .bool ov], .rows (.pair (.int .i64) (.int .i64)) r false] k = oK (fun v : Int × Int × Int × Nat × Nat × Int × Bool × List (Int × Int) => k (.int .i64 v.1) [(.var [(.int .i64 v.2.1), (.int .i64 v.2.2.1), (.slice 2 1 v.2.2.2.1 v.2.2.2.2.1 none), (.int .i64 v.2.2.2.2.2.1), (.bool v.2.2.2.2.2.2.1)]), (.rows (Cd.pair (Cd.int .i64) (Cd.int .i64)) v.2.2.2.2.2.2.2 false)]) (S.q_rmean r lo len rw rg nw ov t) :=
  (S.rmean_v r lo len rw rg nw ov t k).trans (by rw [S.q_rmean_eq])
noncomputable def Z_rmean1 : {f : ∀ (rw rg nw : Int) (ov : Bool) (t : Int), Int × Int × Int × Int × Bool // f = fun (rw rg nw : Int) (ov : Bool) (t : Int) => S.rmean1 rw rg nw ov t} := Classical.choice ⟨⟨_, rfl⟩⟩
noncomputable def S.q_rmean1 (rw rg nw : Int) (ov : Bool) (t : Int) : Int × Int × Int × Int × Bool := Z_rmean1.1 rw rg nw ov t
theorem S.q_rmean1_eq (rw rg nw : Int) (ov : Bool) (t : Int) : S.q_rmean1 rw rg nw ov t = S.rmean1 rw rg nw ov t := by unfold S.q_rmean1; rw [Z_rmean1.2]
theorem S.q_rmean1_v {R : Type} (rw rg nw : Int) (ov : Bool) (t : Int) (k : AVal → List Blk → Option R) : fnEval tis F19 0 G39 Try.f19 [.ptr 0 0 0, .int .i64 t] [.var [.int .i64 rw, .int .i64 rg, .nils, .int .i64 nw, .bool ov]] k = k (.int .i64 (S.q_rmean1 rw rg nw ov t).1) [(.var [(.int .i64 (S.q_rmean1 rw rg nw ov t).2.1), (.int .i64 (S.q_rmean1 rw rg nw ov t).2.2.1), .nils, (.int .i64 (S.q_rmean1 rw rg nw ov t).2.2.2.1), (.bool (S.q_rmean1 rw rg nw ov t).2.2.2.2)])] :=
  (S.rmean1_v rw rg nw ov t k).trans (by rw [S.q_rmean1_eq])
noncomputable def H19s : Hnd := fun R args σ k => match args, σ with
  | [.ptr 0 0 0, .int .i64 t], [.var [.int .i64 rw, .int .i64 rg, .slice 2 1 lo len none, .int .i64 nw, .bool ov], .rows (.pair (.int .i64) (.int .i64)) r false] => oK (fun v : Int × Int × Int × Nat × Nat × Int × Bool × List (Int × Int) => k (.int .i64 v.1) [(.var [(.int .i64 v.2.1), (.int .i64 v.2.2.1), (.slice 2 1 v.2.2.2.1 v.2.2.2.2.1 none), (.int .i64 v.2.2.2.2.2.1), (.bool v.2.2.2.2.2.2.1)]), (.rows (Cd.pair (Cd.int .i64) (Cd.int .i64)) v.2.2.2.2.2.2.2 false)]) (S.q_rmean r lo len rw rg nw ov t)
  | [.ptr 0 0 0, .int .i64 t], [.var [.int .i64 rw, .int .i64 rg, .nils, .int .i64 nw, .bool ov]] => k (.int .i64 (S.q_rmean1 rw rg nw ov t).1) [(.var [(.int .i64 (S.q_rmean1 rw rg nw ov t).2.1), (.int .i64 (S.q_rmean1 rw rg nw ov t).2.2.1), .nils, (.int .i64 (S.q_rmean1 rw rg nw ov t).2.2.2.1), (.bool (S.q_rmean1 rw rg nw ov t).2.2.2.2)])]
  | _, _ => none
theorem H19s_ok : HndOk Try.prog 19 H19s := hnd_ok tis tisOk mixOk G39_ok F19 Try.func19 rfl (by
  intro R args σ k r h
  unfold H19s at h
  split at h
  · rename_i t rw rg lo len nw ov r; exact ⟨0, (S.q_rmean_v r lo len rw rg nw ov t _).trans h⟩
  · rename_i t rw rg nw ov; exact ⟨0, (S.q_rmean1_v rw rg nw ov t _).trans h⟩
  · cases h)
noncomputable def G19s : Env := Env.add 19 H19s G17s
theorem G19s_ok : EnvOk Try.prog G19s := envAdd_ok H19s_ok G17s_ok
noncomputable def Z_rmay : {f : ∀ (c : Cf), Bool // f = fun (c : Cf) => S.rmay c} := Classical.choice ⟨⟨_, rfl⟩⟩
noncomputable def S.q_rmay (c : Cf) : Bool := Z_rmay.1 c
theorem S.q_rmay_eq (c : Cf) : S.q_rmay c = S.rmay c := by unfold S.q_rmay; rw [Z_rmay.2]
theorem S.q_rmay_v {R : Type} (c : Cf) (k : AVal → List Blk → Option R) : fnEval tis F28 0 G47 Try.f28 [.agg (cfA c)] [] k = k (.bool (S.q_rmay c)) [] :=
  (S.rmay_v c k).trans (by rw [S.q_rmay_eq])
noncomputable def H28s : Hnd := fun R args σ k => match args, σ with
  | [.agg [.int .i64 target_, .int .i64 util_, .int .i64 stable_, .int .i64 panic_, .int .i64 grain_, .int .i64 threshold_, .int .i64 up_, .int .i64 down_, .int .i64 min_, .int .i64 max_, .int .i64 initial_, .int .i64 grace_, .int .i64 delay_, .int .i64 burst_, .int .i64 limit_, .int .i64 queue_, .int .i64 timeout_, .int .i64 ready_, .int .i64 subset_, .int .i64 sample_]], [] => k (.bool (S.q_rmay ⟨target_, util_, stable_, panic_, grain_, threshold_, up_, down_, min_, max_, initial_, grace_, delay_, burst_, limit_, queue_, timeout_, ready_, subset_, sample_⟩)) []
  | _, _ => none
theorem H28s_ok : HndOk Try.prog 28 H28s := hnd_ok tis tisOk mixOk G47_ok F28 Try.func28 rfl (by
  intro R args σ k r h
  unfold H28s at h
  split at h
  · rename_i target_ util_ stable_ panic_ grain_ threshold_ up_ down_ min_ max_ initial_ grace_ delay_ burst_ limit_ queue_ timeout_ ready_ subset_ sample_; exact ⟨0, (S.q_rmay_v ⟨target_, util_, stable_, panic_, grain_, threshold_, up_, down_, min_, max_, initial_, grace_, delay_, burst_, limit_, queue_, timeout_, ready_, subset_, sample_⟩ _).trans h⟩
  · cases h)
noncomputable def G28s : Env := Env.add 28 H28s G19s
theorem G28s_ok : EnvOk Try.prog G28s := envAdd_ok H28s_ok G19s_ok
end Go.Proofs.Ytdflpflffccmgaa.AB
