/- All together, the program's and the document's, shut. -/
import Derived.Test.YtdgipcjigbagfaaGreatSrdec
namespace Go.Proofs.YtdgipcjigbagfaaGreat.AB
set_option linter.unusedVariables false
noncomputable def Z_dcnew_p : {f : ∀ (c : Cf), Option ((Unit) ⊕ (Cf × Cf × Rg × Rg × Dl)) // f = fun (c : Cf) => S.dcnew_p c} := Classical.choice ⟨⟨_, rfl⟩⟩
noncomputable def S.q_dcnew_p (c : Cf) : Option ((Unit) ⊕ (Cf × Cf × Rg × Rg × Dl)) := Z_dcnew_p.1 c
theorem S.q_dcnew_p_eq (c : Cf) : S.q_dcnew_p c = S.dcnew_p c := by unfold S.q_dcnew_p; rw [Z_dcnew_p.2]
noncomputable def H12s : Hnd := fun R args σ k => match args, σ with
  | [.agg [.int .i64 target_, .int .i64 util_, .int .i64 stable_, .int .i64 panic_, .int .i64 grain_, .int .i64 threshold_, .int .i64 up_, .int .i64 down_, .int .i64 min_, .int .i64 max_, .int .i64 initial_, .int .i64 grace_, .int .i64 delay_, .int .i64 burst_, .int .i64 limit_, .int .i64 queue_, .int .i64 timeout_, .int .i64 ready_, .int .i64 subset_, .int .i64 sample_]], [] => oK (Sum.elim (fun v : Unit => k .nilp []) (fun v : Cf × Cf × Rg × Rg × Dl => k (.ptr 0 (0) 0) [(.var (cfA v.1 ++ [(.slice 1 1 (0) (2) none), (.int .i64 (-1)), (.int .i64 (0)), (.int .i64 (0))])), (.cells [(.iface 57 (.ptr 2 (0) 0)), (.iface 59 (.ptr 7 (0) 0))]), (.var (cfA v.2.1 ++ [(.iface 95 (.ptr 3 (0) 0)), (.iface 95 (.ptr 5 (0) 0)), (.bool (false))])), (.var [(.slice 1 4 (v.2.2.1.lo) (v.2.2.1.len) none), (.int .i64 (v.2.2.1.w)), (.int .i64 (v.2.2.1.g)), (.int .i64 (v.2.2.1.n)), (.int .i64 (v.2.2.1.nw)), (.bool (v.2.2.1.ov))]), (.fam 135 (Cd.pair (Cd.int .i64) (Cd.pair (Cd.int .i64) (Cd.pair (Cd.int .i64) Cd.bool))) (v.2.2.1.l) (v.2.2.1.f)), (.var [(.slice 1 6 (v.2.2.2.1.lo) (v.2.2.2.1.len) none), (.int .i64 (v.2.2.2.1.w)), (.int .i64 (v.2.2.2.1.g)), (.int .i64 (v.2.2.2.1.n)), (.int .i64 (v.2.2.2.1.nw)), (.bool (v.2.2.2.1.ov))]), (.fam 135 (Cd.pair (Cd.int .i64) (Cd.pair (Cd.int .i64) (Cd.pair (Cd.int .i64) Cd.bool))) (v.2.2.2.1.l) (v.2.2.2.1.f)), (.var [(.slice 1 8 (v.2.2.2.2.lo) (v.2.2.2.2.len) none), (.int .i64 (v.2.2.2.2.sp)), (.int .i64 (v.2.2.2.2.la))]), (.rows (Cd.box 115 (Cd.pair (Cd.int .i64) (Cd.int .i64))) (v.2.2.2.2.l) false)])) (S.q_dcnew_p ⟨target_, util_, stable_, panic_, grain_, threshold_, up_, down_, min_, max_, initial_, grace_, delay_, burst_, limit_, queue_, timeout_, ready_, subset_, sample_⟩)
  | _, _ => none
theorem H12s_ok : HndOk Tryz.prog 12 H12s := hnd_ok tis tisOk mixOk G41_ok F12 Tryz.func12 rfl (by
  intro R args σ k r h
  unfold H12s at h
  split at h
  · rename_i target_ util_ stable_ panic_ grain_ threshold_ up_ down_ min_ max_ initial_ grace_ delay_ burst_ limit_ queue_ timeout_ ready_ subset_ sample_; exact ⟨0, (S.dcnew_v ⟨target_, util_, stable_, panic_, grain_, threshold_, up_, down_, min_, max_, initial_, grace_, delay_, burst_, limit_, queue_, timeout_, ready_, subset_, sample_⟩ _).trans (keep_lift (fun a b e => by rcases a with a | a | a | a | a <;> first | (cases e; rfl) | cases e) ((congrArg (oK _) (S.q_dcnew_p_eq ⟨target_, util_, stable_, panic_, grain_, threshold_, up_, down_, min_, max_, initial_, grace_, delay_, burst_, limit_, queue_, timeout_, ready_, subset_, sample_⟩).symm).trans h))⟩
  · cases h)
noncomputable def G12s : Env := Env.add 12 H12s G18
theorem G12s_ok : EnvOk Tryz.prog G12s := envAdd_ok H12s_ok G18_ok
noncomputable def Z_dcput : {f : ∀ (c : Cf) (si ms la : Int) (mc : Cf) (mo : Bool) (R0 : Rg) (R1 : Rg) (H : Dl) (t v : Int), Option (Int × Cf × Int × Int × Int × Cf × Bool × Rg × Rg × Dl) // f = fun (c : Cf) (si ms la : Int) (mc : Cf) (mo : Bool) (R0 : Rg) (R1 : Rg) (H : Dl) (t v : Int) => S.dcput c si ms la mc mo R0 R1 H t v} := Classical.choice ⟨⟨_, rfl⟩⟩
noncomputable def S.q_dcput (c : Cf) (si ms la : Int) (mc : Cf) (mo : Bool) (R0 : Rg) (R1 : Rg) (H : Dl) (t v : Int) : Option (Int × Cf × Int × Int × Int × Cf × Bool × Rg × Rg × Dl) := Z_dcput.1 c si ms la mc mo R0 R1 H t v
theorem S.q_dcput_eq (c : Cf) (si ms la : Int) (mc : Cf) (mo : Bool) (R0 : Rg) (R1 : Rg) (H : Dl) (t v : Int) : S.q_dcput c si ms la mc mo R0 R1 H t v = S.dcput c si ms la mc mo R0 R1 H t v := by unfold S.q_dcput; rw [Z_dcput.2]
theorem S.q_dcput_v {R : Type} (c : Cf) (si ms la : Int) (mc : Cf) (mo : Bool) (R0 : Rg) (R1 : Rg) (H : Dl) (t v : Int) (k : AVal → List Blk → Option R) : S.dcput_L c si ms la mc mo R0 R1 H t v k = oK (S.dcput_gk c si ms la mc mo R0 R1 H t v k) (S.q_dcput c si ms la mc mo R0 R1 H t v) :=
  (S.dcput_v c si ms la mc mo R0 R1 H t v k).trans (by rw [S.q_dcput_eq])
noncomputable def Z_dcput1 : {f : ∀ (t v : Int), Int // f = fun (t v : Int) => S.dcput1 t v} := Classical.choice ⟨⟨_, rfl⟩⟩
noncomputable def S.q_dcput1 (t v : Int) : Int := Z_dcput1.1 t v
theorem S.q_dcput1_eq (t v : Int) : S.q_dcput1 t v = S.dcput1 t v := by unfold S.q_dcput1; rw [Z_dcput1.2]
theorem S.q_dcput1_v {R : Type} (t v : Int) (k : AVal → List Blk → Option R) : S.dcput1_L t v k = k (.int .i64 (S.q_dcput1 t v)) [] :=
  (S.dcput1_v t v k).trans (by rw [S.q_dcput1_eq])
noncomputable def H15s : Hnd := fun R args σ k => match args with
  | [.ptr 0 0 0, .int .i64 t, .int .i64 v] => (match rdDec σ with | some (c, si, ms, la, mc, mo, R0, R1, H) => oK (fun v : Int × Cf × Int × Int × Int × Cf × Bool × Rg × Rg × Dl => k (.int .i64 v.1) [(.var (cfA v.2.1 ++ [(.slice 1 1 (0) (2) none), (.int .i64 v.2.2.1), (.int .i64 v.2.2.2.1), (.int .i64 v.2.2.2.2.1)])), (.cells [(.iface 57 (.ptr 2 (0) 0)), (.iface 59 (.ptr 7 (0) 0))]), (.var (cfA v.2.2.2.2.2.1 ++ [(.iface 95 (.ptr 3 (0) 0)), (.iface 95 (.ptr 5 (0) 0)), (.bool v.2.2.2.2.2.2.1)])), (.var [(.slice 1 9 (v.2.2.2.2.2.2.2.1.lo) (v.2.2.2.2.2.2.2.1.len) none), (.int .i64 (v.2.2.2.2.2.2.2.1.w)), (.int .i64 (v.2.2.2.2.2.2.2.1.g)), (.int .i64 (v.2.2.2.2.2.2.2.1.n)), (.int .i64 (v.2.2.2.2.2.2.2.1.nw)), (.bool (v.2.2.2.2.2.2.2.1.ov))]), .dead, (.var [(.slice 1 10 (v.2.2.2.2.2.2.2.2.1.lo) (v.2.2.2.2.2.2.2.2.1.len) none), (.int .i64 (v.2.2.2.2.2.2.2.2.1.w)), (.int .i64 (v.2.2.2.2.2.2.2.2.1.g)), (.int .i64 (v.2.2.2.2.2.2.2.2.1.n)), (.int .i64 (v.2.2.2.2.2.2.2.2.1.nw)), (.bool (v.2.2.2.2.2.2.2.2.1.ov))]), .dead, (.var [(.slice 1 8 (v.2.2.2.2.2.2.2.2.2.lo) (v.2.2.2.2.2.2.2.2.2.len) none), (.int .i64 (v.2.2.2.2.2.2.2.2.2.sp)), (.int .i64 (v.2.2.2.2.2.2.2.2.2.la))]), (.rows (Cd.box 115 (Cd.pair (Cd.int .i64) (Cd.int .i64))) (v.2.2.2.2.2.2.2.2.2.l) false), (.fam 135 (Cd.pair (Cd.int .i64) (Cd.pair (Cd.int .i64) (Cd.pair (Cd.int .i64) Cd.bool))) (v.2.2.2.2.2.2.2.1.l) (v.2.2.2.2.2.2.2.1.f)), (.fam 135 (Cd.pair (Cd.int .i64) (Cd.pair (Cd.int .i64) (Cd.pair (Cd.int .i64) Cd.bool))) (v.2.2.2.2.2.2.2.2.1.l) (v.2.2.2.2.2.2.2.2.1.f))]) (S.q_dcput c si ms la mc mo R0 R1 H t v) | none => none)
  | [.nilp, .int .i64 t, .int .i64 v] => (match σ with | [] => k (.int .i64 (S.q_dcput1 t v)) [] | _ => none)
  | _ => none
theorem H15s_ok : HndOk Tryz.prog 15 H15s := hnd_ok tis tisOk mixOk G42_ok F15 Tryz.func15 rfl (by
  intro R args σ k r h
  unfold H15s at h
  split at h
  · rename_i t v; cases hd : rdDec σ with
    | none => simp only [hd] at h; cases h
    | some q0 =>
      obtain ⟨c, si, ms, la, mc, mo, R0, R1, H⟩ := q0
      simp only [hd] at h
      have e := rdDec_spec hd; subst e
      exact ⟨0, (S.q_dcput_v c si ms la mc mo R0 R1 H t v _).trans h⟩
  · rename_i t v; split at h
    · exact ⟨0, (S.q_dcput1_v t v _).trans h⟩
    · cases h
  · cases h)
noncomputable def G15s : Env := Env.add 15 H15s G12s
theorem G15s_ok : EnvOk Tryz.prog G15s := envAdd_ok H15s_ok G12s_ok
noncomputable def Z_dcnext : {f : ∀ (c : Cf) (si ms la : Int) (mc : Cf) (mo : Bool) (R0 : Rg) (R1 : Rg) (H : Dl) (t r : Int), Option (Int × Int × Int × Int × Bool × Int × Int × Cf × Int × Int × Int × Cf × Bool × Rg × Rg × Dl) // f = fun (c : Cf) (si ms la : Int) (mc : Cf) (mo : Bool) (R0 : Rg) (R1 : Rg) (H : Dl) (t r : Int) => S.dcnext c si ms la mc mo R0 R1 H t r} := Classical.choice ⟨⟨_, rfl⟩⟩
noncomputable def S.q_dcnext (c : Cf) (si ms la : Int) (mc : Cf) (mo : Bool) (R0 : Rg) (R1 : Rg) (H : Dl) (t r : Int) : Option (Int × Int × Int × Int × Bool × Int × Int × Cf × Int × Int × Int × Cf × Bool × Rg × Rg × Dl) := Z_dcnext.1 c si ms la mc mo R0 R1 H t r
theorem S.q_dcnext_eq (c : Cf) (si ms la : Int) (mc : Cf) (mo : Bool) (R0 : Rg) (R1 : Rg) (H : Dl) (t r : Int) : S.q_dcnext c si ms la mc mo R0 R1 H t r = S.dcnext c si ms la mc mo R0 R1 H t r := by unfold S.q_dcnext; rw [Z_dcnext.2]
theorem S.q_dcnext_v {R : Type} (c : Cf) (si ms la : Int) (mc : Cf) (mo : Bool) (R0 : Rg) (R1 : Rg) (H : Dl) (t r : Int) (k : AVal → List Blk → Option R) : S.dcnext_L c si ms la mc mo R0 R1 H t r k = oK (S.dcnext_gk c si ms la mc mo R0 R1 H t r k) (S.q_dcnext c si ms la mc mo R0 R1 H t r) :=
  (S.dcnext_v c si ms la mc mo R0 R1 H t r k).trans (by rw [S.q_dcnext_eq])
noncomputable def Z_dcnext1 : {f : ∀ (t r : Int), Int × Int × Int × Int × Bool × Int × Int // f = fun (t r : Int) => S.dcnext1 t r} := Classical.choice ⟨⟨_, rfl⟩⟩
noncomputable def S.q_dcnext1 (t r : Int) : Int × Int × Int × Int × Bool × Int × Int := Z_dcnext1.1 t r
theorem S.q_dcnext1_eq (t r : Int) : S.q_dcnext1 t r = S.dcnext1 t r := by unfold S.q_dcnext1; rw [Z_dcnext1.2]
theorem S.q_dcnext1_v {R : Type} (t r : Int) (k : AVal → List Blk → Option R) : S.dcnext1_L t r k = k (.tuple [(.agg [(.int .i64 (S.q_dcnext1 t r).1), (.int .i64 (S.q_dcnext1 t r).2.1), (.int .i64 (S.q_dcnext1 t r).2.2.1), (.int .i64 (S.q_dcnext1 t r).2.2.2.1), (.bool (S.q_dcnext1 t r).2.2.2.2.1), (.int .i64 (S.q_dcnext1 t r).2.2.2.2.2.1)]), (.int .i64 (S.q_dcnext1 t r).2.2.2.2.2.2)]) [] :=
  (S.dcnext1_v t r k).trans (by rw [S.q_dcnext1_eq])
noncomputable def H19s : Hnd := fun R args σ k => match args with
  | [.ptr 0 0 0, .int .i64 t, .int .i64 r] => (match rdDec σ with | some (c, si, ms, la, mc, mo, R0, R1, H) => oK (fun v : Int × Int × Int × Int × Bool × Int × Int × Cf × Int × Int × Int × Cf × Bool × Rg × Rg × Dl => k (.tuple [(.agg [(.int .i64 v.1), (.int .i64 v.2.1), (.int .i64 v.2.2.1), (.int .i64 v.2.2.2.1), (.bool v.2.2.2.2.1), (.int .i64 v.2.2.2.2.2.1)]), (.int .i64 v.2.2.2.2.2.2.1)]) [(.var (cfA v.2.2.2.2.2.2.2.1 ++ [(.slice 1 1 (0) (2) none), (.int .i64 v.2.2.2.2.2.2.2.2.1), (.int .i64 v.2.2.2.2.2.2.2.2.2.1), (.int .i64 v.2.2.2.2.2.2.2.2.2.2.1)])), (.cells [(.iface 57 (.ptr 2 (0) 0)), (.iface 59 (.ptr 7 (0) 0))]), (.var (cfA v.2.2.2.2.2.2.2.2.2.2.2.1 ++ [(.iface 95 (.ptr 3 (0) 0)), (.iface 95 (.ptr 5 (0) 0)), (.bool v.2.2.2.2.2.2.2.2.2.2.2.2.1)])), (.var [(.slice 1 4 (v.2.2.2.2.2.2.2.2.2.2.2.2.2.1.lo) (v.2.2.2.2.2.2.2.2.2.2.2.2.2.1.len) none), (.int .i64 (v.2.2.2.2.2.2.2.2.2.2.2.2.2.1.w)), (.int .i64 (v.2.2.2.2.2.2.2.2.2.2.2.2.2.1.g)), (.int .i64 (v.2.2.2.2.2.2.2.2.2.2.2.2.2.1.n)), (.int .i64 (v.2.2.2.2.2.2.2.2.2.2.2.2.2.1.nw)), (.bool (v.2.2.2.2.2.2.2.2.2.2.2.2.2.1.ov))]), (.fam 135 (Cd.pair (Cd.int .i64) (Cd.pair (Cd.int .i64) (Cd.pair (Cd.int .i64) Cd.bool))) (v.2.2.2.2.2.2.2.2.2.2.2.2.2.1.l) (v.2.2.2.2.2.2.2.2.2.2.2.2.2.1.f)), (.var [(.slice 1 6 (v.2.2.2.2.2.2.2.2.2.2.2.2.2.2.1.lo) (v.2.2.2.2.2.2.2.2.2.2.2.2.2.2.1.len) none), (.int .i64 (v.2.2.2.2.2.2.2.2.2.2.2.2.2.2.1.w)), (.int .i64 (v.2.2.2.2.2.2.2.2.2.2.2.2.2.2.1.g)), (.int .i64 (v.2.2.2.2.2.2.2.2.2.2.2.2.2.2.1.n)), (.int .i64 (v.2.2.2.2.2.2.2.2.2.2.2.2.2.2.1.nw)), (.bool (v.2.2.2.2.2.2.2.2.2.2.2.2.2.2.1.ov))]), (.fam 135 (Cd.pair (Cd.int .i64) (Cd.pair (Cd.int .i64) (Cd.pair (Cd.int .i64) Cd.bool))) (v.2.2.2.2.2.2.2.2.2.2.2.2.2.2.1.l) (v.2.2.2.2.2.2.2.2.2.2.2.2.2.2.1.f)), (.var [(.slice 1 9 (v.2.2.2.2.2.2.2.2.2.2.2.2.2.2.2.lo) (v.2.2.2.2.2.2.2.2.2.2.2.2.2.2.2.len) none), (.int .i64 (v.2.2.2.2.2.2.2.2.2.2.2.2.2.2.2.sp)), (.int .i64 (v.2.2.2.2.2.2.2.2.2.2.2.2.2.2.2.la))]), .dead, (.rows (Cd.box 115 (Cd.pair (Cd.int .i64) (Cd.int .i64))) (v.2.2.2.2.2.2.2.2.2.2.2.2.2.2.2.l) false)]) (S.q_dcnext c si ms la mc mo R0 R1 H t r) | none => none)
  | [.nilp, .int .i64 t, .int .i64 r] => (match σ with | [] => k (.tuple [(.agg [(.int .i64 (S.q_dcnext1 t r).1), (.int .i64 (S.q_dcnext1 t r).2.1), (.int .i64 (S.q_dcnext1 t r).2.2.1), (.int .i64 (S.q_dcnext1 t r).2.2.2.1), (.bool (S.q_dcnext1 t r).2.2.2.2.1), (.int .i64 (S.q_dcnext1 t r).2.2.2.2.2.1)]), (.int .i64 (S.q_dcnext1 t r).2.2.2.2.2.2)]) [] | _ => none)
  | _ => none
theorem H19s_ok : HndOk Tryz.prog 19 H19s := hnd_ok tis tisOk mixOk G15_ok F19 Tryz.func19 rfl (by
  intro R args σ k r h
  unfold H19s at h
  split at h
  · rename_i t r; cases hd : rdDec σ with
    | none => simp only [hd] at h; cases h
    | some q0 =>
      obtain ⟨c, si, ms, la, mc, mo, R0, R1, H⟩ := q0
      simp only [hd] at h
      have e := rdDec_spec hd; subst e
      exact ⟨0, (S.q_dcnext_v c si ms la mc mo R0 R1 H t r _).trans h⟩
  · rename_i t r; split at h
    · exact ⟨0, (S.q_dcnext1_v t r _).trans h⟩
    · cases h
  · cases h)
noncomputable def G19s : Env := Env.add 19 H19s G15s
theorem G19s_ok : EnvOk Tryz.prog G19s := envAdd_ok H19s_ok G15s_ok
noncomputable def Z_dcchange : {f : ∀ (c : Cf) (si ms la : Int) (mc : Cf) (mo : Bool) (R0 : Rg) (R1 : Rg) (H : Dl) (d : Cf), Option (Int × Cf × Int × Int × Int × Cf × Bool × Dl × Rg × Rg) // f = fun (c : Cf) (si ms la : Int) (mc : Cf) (mo : Bool) (R0 : Rg) (R1 : Rg) (H : Dl) (d : Cf) => S.dcchange c si ms la mc mo R0 R1 H d} := Classical.choice ⟨⟨_, rfl⟩⟩
noncomputable def S.q_dcchange (c : Cf) (si ms la : Int) (mc : Cf) (mo : Bool) (R0 : Rg) (R1 : Rg) (H : Dl) (d : Cf) : Option (Int × Cf × Int × Int × Int × Cf × Bool × Dl × Rg × Rg) := Z_dcchange.1 c si ms la mc mo R0 R1 H d
theorem S.q_dcchange_eq (c : Cf) (si ms la : Int) (mc : Cf) (mo : Bool) (R0 : Rg) (R1 : Rg) (H : Dl) (d : Cf) : S.q_dcchange c si ms la mc mo R0 R1 H d = S.dcchange c si ms la mc mo R0 R1 H d := by unfold S.q_dcchange; rw [Z_dcchange.2]
theorem S.q_dcchange_v {R : Type} (c : Cf) (si ms la : Int) (mc : Cf) (mo : Bool) (R0 : Rg) (R1 : Rg) (H : Dl) (d : Cf) (k : AVal → List Blk → Option R) : S.dcchange_L c si ms la mc mo R0 R1 H d k = oK (S.dcchange_gk c si ms la mc mo R0 R1 H d k) (S.q_dcchange c si ms la mc mo R0 R1 H d) :=
  (S.dcchange_v c si ms la mc mo R0 R1 H d k).trans (by rw [S.q_dcchange_eq])
noncomputable def Z_dcchange1 : {f : ∀ (c : Cf), Int // f = fun (c : Cf) => S.dcchange1 c} := Classical.choice ⟨⟨_, rfl⟩⟩
noncomputable def S.q_dcchange1 (c : Cf) : Int := Z_dcchange1.1 c
theorem S.q_dcchange1_eq (c : Cf) : S.q_dcchange1 c = S.dcchange1 c := by unfold S.q_dcchange1; rw [Z_dcchange1.2]
theorem S.q_dcchange1_v {R : Type} (c : Cf) (k : AVal → List Blk → Option R) : S.dcchange1_L c k = k (.int .i64 (S.q_dcchange1 c)) [] :=
  (S.dcchange1_v c k).trans (by rw [S.q_dcchange1_eq])
noncomputable def H17s : Hnd := fun R args σ k => match args with
  | [.ptr 0 0 0, .agg [.int .i64 target_, .int .i64 util_, .int .i64 stable_, .int .i64 panic_, .int .i64 grain_, .int .i64 threshold_, .int .i64 up_, .int .i64 down_, .int .i64 min_, .int .i64 max_, .int .i64 initial_, .int .i64 grace_, .int .i64 delay_, .int .i64 burst_, .int .i64 limit_, .int .i64 queue_, .int .i64 timeout_, .int .i64 ready_, .int .i64 subset_, .int .i64 sample_]] => (match rdDec σ with | some (c, si, ms, la, mc, mo, R0, R1, H) => oK (fun v : Int × Cf × Int × Int × Int × Cf × Bool × Dl × Rg × Rg => k (.int .i64 v.1) [(.var (cfA v.2.1 ++ [(.slice 1 1 (0) (2) none), (.int .i64 v.2.2.1), (.int .i64 v.2.2.2.1), (.int .i64 v.2.2.2.2.1)])), (.cells [(.iface 57 (.ptr 2 (0) 0)), (.iface 59 (.ptr 7 (0) 0))]), (.var (cfA v.2.2.2.2.2.1 ++ [(.iface 95 (.ptr 9 (0) 0)), (.iface 95 (.ptr 11 (0) 0)), (.bool v.2.2.2.2.2.2.1)])), .dead, .dead, .dead, .dead, (.var [(.slice 1 8 (v.2.2.2.2.2.2.2.1.lo) (v.2.2.2.2.2.2.2.1.len) none), (.int .i64 (v.2.2.2.2.2.2.2.1.sp)), (.int .i64 (v.2.2.2.2.2.2.2.1.la))]), (.rows (Cd.box 115 (Cd.pair (Cd.int .i64) (Cd.int .i64))) (v.2.2.2.2.2.2.2.1.l) false), (.var [(.slice 1 10 (v.2.2.2.2.2.2.2.2.1.lo) (v.2.2.2.2.2.2.2.2.1.len) none), (.int .i64 (v.2.2.2.2.2.2.2.2.1.w)), (.int .i64 (v.2.2.2.2.2.2.2.2.1.g)), (.int .i64 (v.2.2.2.2.2.2.2.2.1.n)), (.int .i64 (v.2.2.2.2.2.2.2.2.1.nw)), (.bool (v.2.2.2.2.2.2.2.2.1.ov))]), (.fam 135 (Cd.pair (Cd.int .i64) (Cd.pair (Cd.int .i64) (Cd.pair (Cd.int .i64) Cd.bool))) (v.2.2.2.2.2.2.2.2.1.l) (v.2.2.2.2.2.2.2.2.1.f)), (.var [(.slice 1 12 (v.2.2.2.2.2.2.2.2.2.lo) (v.2.2.2.2.2.2.2.2.2.len) none), (.int .i64 (v.2.2.2.2.2.2.2.2.2.w)), (.int .i64 (v.2.2.2.2.2.2.2.2.2.g)), (.int .i64 (v.2.2.2.2.2.2.2.2.2.n)), (.int .i64 (v.2.2.2.2.2.2.2.2.2.nw)), (.bool (v.2.2.2.2.2.2.2.2.2.ov))]), (.fam 135 (Cd.pair (Cd.int .i64) (Cd.pair (Cd.int .i64) (Cd.pair (Cd.int .i64) Cd.bool))) (v.2.2.2.2.2.2.2.2.2.l) (v.2.2.2.2.2.2.2.2.2.f))]) (S.q_dcchange c si ms la mc mo R0 R1 H ⟨target_, util_, stable_, panic_, grain_, threshold_, up_, down_, min_, max_, initial_, grace_, delay_, burst_, limit_, queue_, timeout_, ready_, subset_, sample_⟩) | none => none)
  | [.nilp, .agg [.int .i64 target_, .int .i64 util_, .int .i64 stable_, .int .i64 panic_, .int .i64 grain_, .int .i64 threshold_, .int .i64 up_, .int .i64 down_, .int .i64 min_, .int .i64 max_, .int .i64 initial_, .int .i64 grace_, .int .i64 delay_, .int .i64 burst_, .int .i64 limit_, .int .i64 queue_, .int .i64 timeout_, .int .i64 ready_, .int .i64 subset_, .int .i64 sample_]] => (match σ with | [] => k (.int .i64 (S.q_dcchange1 ⟨target_, util_, stable_, panic_, grain_, threshold_, up_, down_, min_, max_, initial_, grace_, delay_, burst_, limit_, queue_, timeout_, ready_, subset_, sample_⟩)) [] | _ => none)
  | _ => none
theorem H17s_ok : HndOk Tryz.prog 17 H17s := hnd_ok tis tisOk mixOk G19_ok F17 Tryz.func17 rfl (by
  intro R args σ k r h
  unfold H17s at h
  split at h
  · rename_i target_ util_ stable_ panic_ grain_ threshold_ up_ down_ min_ max_ initial_ grace_ delay_ burst_ limit_ queue_ timeout_ ready_ subset_ sample_; cases hd : rdDec σ with
    | none => simp only [hd] at h; cases h
    | some q0 =>
      obtain ⟨c, si, ms, la, mc, mo, R0, R1, H⟩ := q0
      simp only [hd] at h
      have e := rdDec_spec hd; subst e
      exact ⟨0, (S.q_dcchange_v c si ms la mc mo R0 R1 H ⟨target_, util_, stable_, panic_, grain_, threshold_, up_, down_, min_, max_, initial_, grace_, delay_, burst_, limit_, queue_, timeout_, ready_, subset_, sample_⟩ _).trans h⟩
  · rename_i target_ util_ stable_ panic_ grain_ threshold_ up_ down_ min_ max_ initial_ grace_ delay_ burst_ limit_ queue_ timeout_ ready_ subset_ sample_; split at h
    · exact ⟨0, (S.q_dcchange1_v ⟨target_, util_, stable_, panic_, grain_, threshold_, up_, down_, min_, max_, initial_, grace_, delay_, burst_, limit_, queue_, timeout_, ready_, subset_, sample_⟩ _).trans h⟩
    · cases h
  · cases h)
noncomputable def G17s : Env := Env.add 17 H17s G19s
theorem G17s_ok : EnvOk Tryz.prog G17s := envAdd_ok H17s_ok G19s_ok
noncomputable def Z_rmay : {f : ∀ (c : Cf), Bool // f = fun (c : Cf) => S.rmay c} := Classical.choice ⟨⟨_, rfl⟩⟩
noncomputable def S.q_rmay (c : Cf) : Bool := Z_rmay.1 c
theorem S.q_rmay_eq (c : Cf) : S.q_rmay c = S.rmay c := by unfold S.q_rmay; rw [Z_rmay.2]
theorem S.q_rmay_v {R : Type} (c : Cf) (k : AVal → List Blk → Option R) : S.rmay_L c k = k (.bool (S.q_rmay c)) [] :=
  (S.rmay_v c k).trans (by rw [S.q_rmay_eq])
noncomputable def H30s : Hnd := fun R args σ k => match args, σ with
  | [.agg [.int .i64 target_, .int .i64 util_, .int .i64 stable_, .int .i64 panic_, .int .i64 grain_, .int .i64 threshold_, .int .i64 up_, .int .i64 down_, .int .i64 min_, .int .i64 max_, .int .i64 initial_, .int .i64 grace_, .int .i64 delay_, .int .i64 burst_, .int .i64 limit_, .int .i64 queue_, .int .i64 timeout_, .int .i64 ready_, .int .i64 subset_, .int .i64 sample_]], [] => k (.bool (S.q_rmay ⟨target_, util_, stable_, panic_, grain_, threshold_, up_, down_, min_, max_, initial_, grace_, delay_, burst_, limit_, queue_, timeout_, ready_, subset_, sample_⟩)) []
  | _, _ => none
theorem H30s_ok : HndOk Tryz.prog 30 H30s := hnd_ok tis tisOk mixOk G70_ok F30 Tryz.func30 rfl (by
  intro R args σ k r h
  unfold H30s at h
  split at h
  · rename_i target_ util_ stable_ panic_ grain_ threshold_ up_ down_ min_ max_ initial_ grace_ delay_ burst_ limit_ queue_ timeout_ ready_ subset_ sample_; exact ⟨0, (S.q_rmay_v ⟨target_, util_, stable_, panic_, grain_, threshold_, up_, down_, min_, max_, initial_, grace_, delay_, burst_, limit_, queue_, timeout_, ready_, subset_, sample_⟩ _).trans h⟩
  · cases h)
noncomputable def G30s : Env := Env.add 30 H30s G17s
theorem G30s_ok : EnvOk Tryz.prog G30s := envAdd_ok H30s_ok G17s_ok
noncomputable def Z_rdcnew_p : {f : ∀ (c : Cf), Option ((Unit) ⊕ (Cf × Rr × Rr × Rd)) // f = fun (c : Cf) => S.rdcnew_p c} := Classical.choice ⟨⟨_, rfl⟩⟩
noncomputable def S.q_rdcnew_p (c : Cf) : Option ((Unit) ⊕ (Cf × Rr × Rr × Rd)) := Z_rdcnew_p.1 c
theorem S.q_rdcnew_p_eq (c : Cf) : S.q_rdcnew_p c = S.rdcnew_p c := by unfold S.q_rdcnew_p; rw [Z_rdcnew_p.2]
noncomputable def H13s : Hnd := fun R args σ k => match args, σ with
  | [.agg [.int .i64 target_, .int .i64 util_, .int .i64 stable_, .int .i64 panic_, .int .i64 grain_, .int .i64 threshold_, .int .i64 up_, .int .i64 down_, .int .i64 min_, .int .i64 max_, .int .i64 initial_, .int .i64 grace_, .int .i64 delay_, .int .i64 burst_, .int .i64 limit_, .int .i64 queue_, .int .i64 timeout_, .int .i64 ready_, .int .i64 subset_, .int .i64 sample_]], [] => oK (Sum.elim (fun v : Unit => k .nilp []) (fun v : Cf × Rr × Rr × Rd => k (.ptr 0 (0) 0) [(.var (cfA v.1 ++ [(.ptr 1 (0) 0), (.int .i64 (-1)), (.int .i64 (0)), (.ptr 6 (0) 0), (.int .i64 (0))])), (.var [(.ptr 2 (0) 0), (.ptr 4 (0) 0)]), (.var [(.int .i64 (v.2.1.w)), (.int .i64 (v.2.1.g)), (.slice 2 3 (v.2.1.lo) (v.2.1.len) none), (.int .i64 (v.2.1.nw)), (.bool (v.2.1.ov))]), (.rows (Cd.pair (Cd.int .i64) (Cd.int .i64)) (v.2.1.r) false), (.var [(.int .i64 (v.2.2.1.w)), (.int .i64 (v.2.2.1.g)), (.slice 2 5 (v.2.2.1.lo) (v.2.2.1.len) none), (.int .i64 (v.2.2.1.nw)), (.bool (v.2.2.1.ov))]), (.rows (Cd.pair (Cd.int .i64) (Cd.int .i64)) (v.2.2.1.r) false), (.var [(.int .i64 (v.2.2.2.sp)), (.slice 2 7 (v.2.2.2.lo) (v.2.2.2.len) none)]), (.rows (Cd.pair (Cd.int .i64) (Cd.int .i64)) (v.2.2.2.r) false)])) (S.q_rdcnew_p ⟨target_, util_, stable_, panic_, grain_, threshold_, up_, down_, min_, max_, initial_, grace_, delay_, burst_, limit_, queue_, timeout_, ready_, subset_, sample_⟩)
  | _, _ => none
theorem H13s_ok : HndOk Tryz.prog 13 H13s := hnd_ok tis tisOk mixOk G45_ok F13 Tryz.func13 rfl (by
  intro R args σ k r h
  unfold H13s at h
  split at h
  · rename_i target_ util_ stable_ panic_ grain_ threshold_ up_ down_ min_ max_ initial_ grace_ delay_ burst_ limit_ queue_ timeout_ ready_ subset_ sample_; exact ⟨0, (S.rdcnew_v ⟨target_, util_, stable_, panic_, grain_, threshold_, up_, down_, min_, max_, initial_, grace_, delay_, burst_, limit_, queue_, timeout_, ready_, subset_, sample_⟩ _).trans (keep_lift (fun a b e => by rcases a with a | a | a | a | a <;> first | (cases e; rfl) | cases e) ((congrArg (oK _) (S.q_rdcnew_p_eq ⟨target_, util_, stable_, panic_, grain_, threshold_, up_, down_, min_, max_, initial_, grace_, delay_, burst_, limit_, queue_, timeout_, ready_, subset_, sample_⟩).symm).trans h))⟩
  · cases h)
noncomputable def G13s : Env := Env.add 13 H13s G30s
theorem G13s_ok : EnvOk Tryz.prog G13s := envAdd_ok H13s_ok G30s_ok
noncomputable def Z_rmput : {f : ∀ (w0 g0 : Int) (lo0 len0 : Nat) (nw0 : Int) (ov0 : Bool) (r0 : RL) (w1 g1 : Int) (lo1 len1 : Nat) (nw1 : Int) (ov1 : Bool) (r1 : RL) (t v : Int), Option (Int × Rr × Rr) // f = fun (w0 g0 : Int) (lo0 len0 : Nat) (nw0 : Int) (ov0 : Bool) (r0 : RL) (w1 g1 : Int) (lo1 len1 : Nat) (nw1 : Int) (ov1 : Bool) (r1 : RL) (t v : Int) => S.rmput w0 g0 lo0 len0 nw0 ov0 r0 w1 g1 lo1 len1 nw1 ov1 r1 t v} := Classical.choice ⟨⟨_, rfl⟩⟩
noncomputable def S.q_rmput (w0 g0 : Int) (lo0 len0 : Nat) (nw0 : Int) (ov0 : Bool) (r0 : RL) (w1 g1 : Int) (lo1 len1 : Nat) (nw1 : Int) (ov1 : Bool) (r1 : RL) (t v : Int) : Option (Int × Rr × Rr) := Z_rmput.1 w0 g0 lo0 len0 nw0 ov0 r0 w1 g1 lo1 len1 nw1 ov1 r1 t v
theorem S.q_rmput_eq (w0 g0 : Int) (lo0 len0 : Nat) (nw0 : Int) (ov0 : Bool) (r0 : RL) (w1 g1 : Int) (lo1 len1 : Nat) (nw1 : Int) (ov1 : Bool) (r1 : RL) (t v : Int) : S.q_rmput w0 g0 lo0 len0 nw0 ov0 r0 w1 g1 lo1 len1 nw1 ov1 r1 t v = S.rmput w0 g0 lo0 len0 nw0 ov0 r0 w1 g1 lo1 len1 nw1 ov1 r1 t v := by unfold S.q_rmput; rw [Z_rmput.2]
theorem S.q_rmput_v {R : Type} (w0 g0 : Int) (lo0 len0 : Nat) (nw0 : Int) (ov0 : Bool) (r0 : RL) (w1 g1 : Int) (lo1 len1 : Nat) (nw1 : Int) (ov1 : Bool) (r1 : RL) (t v : Int) (k : AVal → List Blk → Option R) : S.rmput_L w0 g0 lo0 len0 nw0 ov0 r0 w1 g1 lo1 len1 nw1 ov1 r1 t v k = oK (S.rmput_gk w0 g0 lo0 len0 nw0 ov0 r0 w1 g1 lo1 len1 nw1 ov1 r1 t v k) (S.q_rmput w0 g0 lo0 len0 nw0 ov0 r0 w1 g1 lo1 len1 nw1 ov1 r1 t v) :=
  (S.rmput_v w0 g0 lo0 len0 nw0 ov0 r0 w1 g1 lo1 len1 nw1 ov1 r1 t v k).trans (by rw [S.q_rmput_eq])
noncomputable def H16s : Hnd := fun R args σ k => match args, σ with
  | [.ptr 0 0 0, .int .i64 t, .int .i64 v], [.var [.ptr 1 0 0, .ptr 3 0 0], .var [.int .i64 w0, .int .i64 g0, .slice 2 2 lo0 len0 none, .int .i64 nw0, .bool ov0], .rows (.pair (.int .i64) (.int .i64)) r0 false, .var [.int .i64 w1, .int .i64 g1, .slice 2 4 lo1 len1 none, .int .i64 nw1, .bool ov1], .rows (.pair (.int .i64) (.int .i64)) r1 false] => oK (fun v : Int × Rr × Rr => k (.int .i64 v.1) [(.var [(.ptr 1 (0) 0), (.ptr 3 (0) 0)]), (.var [(.int .i64 (v.2.1.w)), (.int .i64 (v.2.1.g)), (.slice 2 5 (v.2.1.lo) (v.2.1.len) none), (.int .i64 (v.2.1.nw)), (.bool (v.2.1.ov))]), .dead, (.var [(.int .i64 (v.2.2.w)), (.int .i64 (v.2.2.g)), (.slice 2 6 (v.2.2.lo) (v.2.2.len) none), (.int .i64 (v.2.2.nw)), (.bool (v.2.2.ov))]), .dead, (.rows (Cd.pair (Cd.int .i64) (Cd.int .i64)) (v.2.1.r) false), (.rows (Cd.pair (Cd.int .i64) (Cd.int .i64)) (v.2.2.r) false)]) (S.q_rmput w0 g0 lo0 len0 nw0 ov0 r0 w1 g1 lo1 len1 nw1 ov1 r1 t v)
  | _, _ => none
theorem H16s_ok : HndOk Tryz.prog 16 H16s := hnd_ok tis tisOk mixOk G36_ok F16 Tryz.func16 rfl (by
  intro R args σ k r h
  unfold H16s at h
  split at h
  · rename_i t v w0 g0 lo0 len0 nw0 ov0 r0 w1 g1 lo1 len1 nw1 ov1 r1; exact ⟨0, (S.q_rmput_v w0 g0 lo0 len0 nw0 ov0 r0 w1 g1 lo1 len1 nw1 ov1 r1 t v _).trans h⟩
  · cases h)
noncomputable def G16s : Env := Env.add 16 H16s G13s
theorem G16s_ok : EnvOk Tryz.prog G16s := envAdd_ok H16s_ok G13s_ok
noncomputable def Z_rdcnext : {f : ∀ (c : Cf) (si ms la : Int) (P0 : Rr) (P1 : Rr) (Q : Rd) (t r : Int), Option (Int × Int × Int × Int × Bool × Int × Int × Cf × Int × Int × Int × Rr × Rr × Rd) // f = fun (c : Cf) (si ms la : Int) (P0 : Rr) (P1 : Rr) (Q : Rd) (t r : Int) => S.rdcnext c si ms la P0 P1 Q t r} := Classical.choice ⟨⟨_, rfl⟩⟩
noncomputable def S.q_rdcnext (c : Cf) (si ms la : Int) (P0 : Rr) (P1 : Rr) (Q : Rd) (t r : Int) : Option (Int × Int × Int × Int × Bool × Int × Int × Cf × Int × Int × Int × Rr × Rr × Rd) := Z_rdcnext.1 c si ms la P0 P1 Q t r
theorem S.q_rdcnext_eq (c : Cf) (si ms la : Int) (P0 : Rr) (P1 : Rr) (Q : Rd) (t r : Int) : S.q_rdcnext c si ms la P0 P1 Q t r = S.rdcnext c si ms la P0 P1 Q t r := by unfold S.q_rdcnext; rw [Z_rdcnext.2]
theorem S.q_rdcnext_v {R : Type} (c : Cf) (si ms la : Int) (P0 : Rr) (P1 : Rr) (Q : Rd) (t r : Int) (k : AVal → List Blk → Option R) : S.rdcnext_L c si ms la P0 P1 Q t r k = oK (S.rdcnext_gk c si ms la P0 P1 Q t r k) (S.q_rdcnext c si ms la P0 P1 Q t r) :=
  (S.rdcnext_v c si ms la P0 P1 Q t r k).trans (by rw [S.q_rdcnext_eq])
noncomputable def H20s : Hnd := fun R args σ k => match args with
  | [.ptr 0 0 0, .int .i64 t, .int .i64 r] => (match rdRDec σ with | some (c, si, ms, la, P0, P1, Q) => oK (fun v : Int × Int × Int × Int × Bool × Int × Int × Cf × Int × Int × Int × Rr × Rr × Rd => k (.tuple [(.agg [(.int .i64 v.1), (.int .i64 v.2.1), (.int .i64 v.2.2.1), (.int .i64 v.2.2.2.1), (.bool v.2.2.2.2.1), (.int .i64 v.2.2.2.2.2.1)]), (.int .i64 v.2.2.2.2.2.2.1)]) [(.var (cfA v.2.2.2.2.2.2.2.1 ++ [(.ptr 8 (0) 0), (.int .i64 v.2.2.2.2.2.2.2.2.1), (.int .i64 v.2.2.2.2.2.2.2.2.2.1), (.ptr 13 (0) 0), (.int .i64 v.2.2.2.2.2.2.2.2.2.2.1)])), .dead, .dead, .dead, .dead, .dead, .dead, .dead, (.var [(.ptr 9 (0) 0), (.ptr 11 (0) 0)]), (.var [(.int .i64 (v.2.2.2.2.2.2.2.2.2.2.2.1.w)), (.int .i64 (v.2.2.2.2.2.2.2.2.2.2.2.1.g)), (.slice 2 10 (v.2.2.2.2.2.2.2.2.2.2.2.1.lo) (v.2.2.2.2.2.2.2.2.2.2.2.1.len) none), (.int .i64 (v.2.2.2.2.2.2.2.2.2.2.2.1.nw)), (.bool (v.2.2.2.2.2.2.2.2.2.2.2.1.ov))]), (.rows (Cd.pair (Cd.int .i64) (Cd.int .i64)) (v.2.2.2.2.2.2.2.2.2.2.2.1.r) false), (.var [(.int .i64 (v.2.2.2.2.2.2.2.2.2.2.2.2.1.w)), (.int .i64 (v.2.2.2.2.2.2.2.2.2.2.2.2.1.g)), (.slice 2 12 (v.2.2.2.2.2.2.2.2.2.2.2.2.1.lo) (v.2.2.2.2.2.2.2.2.2.2.2.2.1.len) none), (.int .i64 (v.2.2.2.2.2.2.2.2.2.2.2.2.1.nw)), (.bool (v.2.2.2.2.2.2.2.2.2.2.2.2.1.ov))]), (.rows (Cd.pair (Cd.int .i64) (Cd.int .i64)) (v.2.2.2.2.2.2.2.2.2.2.2.2.1.r) false), (.var [(.int .i64 (v.2.2.2.2.2.2.2.2.2.2.2.2.2.sp)), (.slice 2 14 (v.2.2.2.2.2.2.2.2.2.2.2.2.2.lo) (v.2.2.2.2.2.2.2.2.2.2.2.2.2.len) none)]), (.rows (Cd.pair (Cd.int .i64) (Cd.int .i64)) (v.2.2.2.2.2.2.2.2.2.2.2.2.2.r) false)]) (S.q_rdcnext c si ms la P0 P1 Q t r) | none => none)
  | _ => none
theorem H20s_ok : HndOk Tryz.prog 20 H20s := hnd_ok tis tisOk mixOk G13_ok F20 Tryz.func20 rfl (by
  intro R args σ k r h
  unfold H20s at h
  split at h
  · rename_i t r; cases hd : rdRDec σ with
    | none => simp only [hd] at h; cases h
    | some q0 =>
      obtain ⟨c, si, ms, la, P0, P1, Q⟩ := q0
      simp only [hd] at h
      have e := rdRDec_spec hd; subst e
      exact ⟨0, (S.q_rdcnext_v c si ms la P0 P1 Q t r _).trans h⟩
  · cases h)
noncomputable def G20s : Env := Env.add 20 H20s G16s
theorem G20s_ok : EnvOk Tryz.prog G20s := envAdd_ok H20s_ok G16s_ok
noncomputable def Z_rdcchange : {f : ∀ (c : Cf) (si ms la : Int) (P0 : Rr) (P1 : Rr) (Q : Rd) (d : Cf), Option (Int × Cf × Int × Int × Int × Rr × Rr × Rd) // f = fun (c : Cf) (si ms la : Int) (P0 : Rr) (P1 : Rr) (Q : Rd) (d : Cf) => S.rdcchange c si ms la P0 P1 Q d} := Classical.choice ⟨⟨_, rfl⟩⟩
noncomputable def S.q_rdcchange (c : Cf) (si ms la : Int) (P0 : Rr) (P1 : Rr) (Q : Rd) (d : Cf) : Option (Int × Cf × Int × Int × Int × Rr × Rr × Rd) := Z_rdcchange.1 c si ms la P0 P1 Q d
theorem S.q_rdcchange_eq (c : Cf) (si ms la : Int) (P0 : Rr) (P1 : Rr) (Q : Rd) (d : Cf) : S.q_rdcchange c si ms la P0 P1 Q d = S.rdcchange c si ms la P0 P1 Q d := by unfold S.q_rdcchange; rw [Z_rdcchange.2]
theorem S.q_rdcchange_v {R : Type} (c : Cf) (si ms la : Int) (P0 : Rr) (P1 : Rr) (Q : Rd) (d : Cf) (k : AVal → List Blk → Option R) : S.rdcchange_L c si ms la P0 P1 Q d k = oK (S.rdcchange_gk c si ms la P0 P1 Q d k) (S.q_rdcchange c si ms la P0 P1 Q d) :=
  (S.rdcchange_v c si ms la P0 P1 Q d k).trans (by rw [S.q_rdcchange_eq])
noncomputable def H18s : Hnd := fun R args σ k => match args with
  | [.ptr 0 0 0, .agg [.int .i64 target_, .int .i64 util_, .int .i64 stable_, .int .i64 panic_, .int .i64 grain_, .int .i64 threshold_, .int .i64 up_, .int .i64 down_, .int .i64 min_, .int .i64 max_, .int .i64 initial_, .int .i64 grace_, .int .i64 delay_, .int .i64 burst_, .int .i64 limit_, .int .i64 queue_, .int .i64 timeout_, .int .i64 ready_, .int .i64 subset_, .int .i64 sample_]] => (match rdRDec σ with | some (c, si, ms, la, P0, P1, Q) => oK (fun v : Int × Cf × Int × Int × Int × Rr × Rr × Rd => k (.int .i64 v.1) [(.var (cfA v.2.1 ++ [(.ptr 8 (0) 0), (.int .i64 v.2.2.1), (.int .i64 v.2.2.2.1), (.ptr 13 (0) 0), (.int .i64 v.2.2.2.2.1)])), .dead, .dead, .dead, .dead, .dead, .dead, .dead, (.var [(.ptr 9 (0) 0), (.ptr 11 (0) 0)]), (.var [(.int .i64 (v.2.2.2.2.2.1.w)), (.int .i64 (v.2.2.2.2.2.1.g)), (.slice 2 10 (v.2.2.2.2.2.1.lo) (v.2.2.2.2.2.1.len) none), (.int .i64 (v.2.2.2.2.2.1.nw)), (.bool (v.2.2.2.2.2.1.ov))]), (.rows (Cd.pair (Cd.int .i64) (Cd.int .i64)) (v.2.2.2.2.2.1.r) false), (.var [(.int .i64 (v.2.2.2.2.2.2.1.w)), (.int .i64 (v.2.2.2.2.2.2.1.g)), (.slice 2 12 (v.2.2.2.2.2.2.1.lo) (v.2.2.2.2.2.2.1.len) none), (.int .i64 (v.2.2.2.2.2.2.1.nw)), (.bool (v.2.2.2.2.2.2.1.ov))]), (.rows (Cd.pair (Cd.int .i64) (Cd.int .i64)) (v.2.2.2.2.2.2.1.r) false), (.var [(.int .i64 (v.2.2.2.2.2.2.2.sp)), (.slice 2 14 (v.2.2.2.2.2.2.2.lo) (v.2.2.2.2.2.2.2.len) none)]), (.rows (Cd.pair (Cd.int .i64) (Cd.int .i64)) (v.2.2.2.2.2.2.2.r) false)]) (S.q_rdcchange c si ms la P0 P1 Q ⟨target_, util_, stable_, panic_, grain_, threshold_, up_, down_, min_, max_, initial_, grace_, delay_, burst_, limit_, queue_, timeout_, ready_, subset_, sample_⟩) | none => none)
  | _ => none
theorem H18s_ok : HndOk Tryz.prog 18 H18s := hnd_ok tis tisOk mixOk G20_ok F18 Tryz.func18 rfl (by
  intro R args σ k r h
  unfold H18s at h
  split at h
  · rename_i target_ util_ stable_ panic_ grain_ threshold_ up_ down_ min_ max_ initial_ grace_ delay_ burst_ limit_ queue_ timeout_ ready_ subset_ sample_; cases hd : rdRDec σ with
    | none => simp only [hd] at h; cases h
    | some q0 =>
      obtain ⟨c, si, ms, la, P0, P1, Q⟩ := q0
      simp only [hd] at h
      have e := rdRDec_spec hd; subst e
      exact ⟨0, (S.q_rdcchange_v c si ms la P0 P1 Q ⟨target_, util_, stable_, panic_, grain_, threshold_, up_, down_, min_, max_, initial_, grace_, delay_, burst_, limit_, queue_, timeout_, ready_, subset_, sample_⟩ _).trans h⟩
  · cases h)
noncomputable def G18s : Env := Env.add 18 H18s G20s
theorem G18s_ok : EnvOk Tryz.prog G18s := envAdd_ok H18s_ok G20s_ok
end Go.Proofs.YtdgipcjigbagfaaGreat.AB
