/- The document's functions of layer 26, as plain functions. -/
import Derived.Test.YtdgipcjigbagfaaGreatSrun
namespace Go.Proofs.YtdgipcjigbagfaaGreat.AB
set_option linter.unusedVariables false

/-! spinnakerref12.Aim -/
def F9 : FCfg := ⟨keepAt [(0, [1, 2]), (1, [1, 2, 7]), (2, [4]), (3, [4])], loopAt [], []⟩
noncomputable def S.raim_L {R : Type} (c : Cf) (load : Int) (k : AVal → List Blk → Option R) : Option R := fnEval tis F9 0 G5 Tryz.f9 [.agg (cfA c), .int .i64 load] [] k
noncomputable def S.raim_gk {R : Type} (c : Cf) (load : Int) (k : AVal → List Blk → Option R) : (Int) → Option R := (fun v : Int => k (.int .i64 v) [])
noncomputable def S.raim (c : Cf) (load : Int) : Option (Int) :=
  bif !S.q_rmay c then
   some (0)
 else
   (optK (S.rof c (if 0 > load then 0 else load)) fun o3 =>
   some (if c.min > if S.rcmost c < o3 then S.rcmost c else o3 then c.min else if S.rcmost c < o3 then S.rcmost c else o3))
theorem S.raim_v {R : Type} (c : Cf) (load : Int) (k : AVal → List Blk → Option R) : S.raim_L c load k = oK (S.raim_gk c load k) (S.raim c load) :=
  (show S.raim_L c load k =
  (bif !S.q_rmay c then
   (S.raim_gk c load k) (0)
 else
   (optK (S.rof c (if 0 > load then 0 else load)) fun o3 =>
   (S.raim_gk c load k) (if c.min > if S.rcmost c < o3 then S.rcmost c else o3 then c.min else if S.rcmost c < o3 then S.rcmost c else o3))) from by kernel_rfl).trans (bif_lift (f := (oK (S.raim_gk c load k))) rfl (opt_lift fun o3 => rfl))
noncomputable def H9 : Hnd := fun R args σ k => match args, σ with
  | [.agg [.int .i64 target_, .int .i64 util_, .int .i64 stable_, .int .i64 panic_, .int .i64 grain_, .int .i64 threshold_, .int .i64 up_, .int .i64 down_, .int .i64 min_, .int .i64 max_, .int .i64 initial_, .int .i64 grace_, .int .i64 delay_, .int .i64 burst_, .int .i64 limit_, .int .i64 queue_, .int .i64 timeout_, .int .i64 ready_, .int .i64 subset_, .int .i64 sample_], .int .i64 load], [] => oK (fun v : Int => k (.int .i64 v) []) (S.raim ⟨target_, util_, stable_, panic_, grain_, threshold_, up_, down_, min_, max_, initial_, grace_, delay_, burst_, limit_, queue_, timeout_, ready_, subset_, sample_⟩ load)
  | _, _ => none
theorem H9_ok : HndOk Tryz.prog 9 H9 := hnd_ok tis tisOk mixOk G5_ok F9 Tryz.func9 rfl (by
  intro R args σ k r h
  unfold H9 at h
  split at h
  · rename_i target_ util_ stable_ panic_ grain_ threshold_ up_ down_ min_ max_ initial_ grace_ delay_ burst_ limit_ queue_ timeout_ ready_ subset_ sample_ load; exact ⟨0, (S.raim_v ⟨target_, util_, stable_, panic_, grain_, threshold_, up_, down_, min_, max_, initial_, grace_, delay_, burst_, limit_, queue_, timeout_, ready_, subset_, sample_⟩ load _).trans h⟩
  · cases h)
noncomputable def G9 : Env := Env.add 9 H9 G5
theorem G9_ok : EnvOk Tryz.prog G9 := envAdd_ok H9_ok G5_ok

/-! spinnakerref12.Ticks -/
def F11 : FCfg := ⟨keepAt [(0, [1]), (1, [1, 5]), (2, [2]), (3, [2])], loopAt [], []⟩
noncomputable def S.rtks_L {R : Type} (c : Cf) (k : AVal → List Blk → Option R) : Option R := fnEval tis F11 0 G9 Tryz.f11 [.agg (cfA c)] [] k
noncomputable def S.rtks_gk {R : Type} (c : Cf) (k : AVal → List Blk → Option R) : (Int) → Option R := (fun v : Int => k (.int .i64 v) [])
noncomputable def S.rtks (c : Cf) : Int :=
  bif !S.q_rmay c then
   (0)
 else
   (Go.IntKind.wrap .i64 (Go.IntKind.wrap .i64 (Go.IntKind.wrap .i64 (400 + Go.IntKind.wrap .i64 (2 * c.stable)) + c.panic) + Go.IntKind.wrap .i64 (40 * c.delay)))
theorem S.rtks_v {R : Type} (c : Cf) (k : AVal → List Blk → Option R) : S.rtks_L c k = (S.rtks_gk c k) (S.rtks c) :=
  (show S.rtks_L c k =
  (bif !S.q_rmay c then
   (S.rtks_gk c k) (0)
 else
   (S.rtks_gk c k) (Go.IntKind.wrap .i64 (Go.IntKind.wrap .i64 (Go.IntKind.wrap .i64 (400 + Go.IntKind.wrap .i64 (2 * c.stable)) + c.panic) + Go.IntKind.wrap .i64 (40 * c.delay)))) from by kernel_rfl).trans (bif_lift (f := (S.rtks_gk c k)) rfl rfl)
noncomputable def H11 : Hnd := fun R args σ k => match args, σ with
  | [.agg [.int .i64 target_, .int .i64 util_, .int .i64 stable_, .int .i64 panic_, .int .i64 grain_, .int .i64 threshold_, .int .i64 up_, .int .i64 down_, .int .i64 min_, .int .i64 max_, .int .i64 initial_, .int .i64 grace_, .int .i64 delay_, .int .i64 burst_, .int .i64 limit_, .int .i64 queue_, .int .i64 timeout_, .int .i64 ready_, .int .i64 subset_, .int .i64 sample_]], [] => k (.int .i64 (S.rtks ⟨target_, util_, stable_, panic_, grain_, threshold_, up_, down_, min_, max_, initial_, grace_, delay_, burst_, limit_, queue_, timeout_, ready_, subset_, sample_⟩)) []
  | _, _ => none
theorem H11_ok : HndOk Tryz.prog 11 H11 := hnd_ok tis tisOk mixOk G9_ok F11 Tryz.func11 rfl (by
  intro R args σ k r h
  unfold H11 at h
  split at h
  · rename_i target_ util_ stable_ panic_ grain_ threshold_ up_ down_ min_ max_ initial_ grace_ delay_ burst_ limit_ queue_ timeout_ ready_ subset_ sample_; exact ⟨0, (S.rtks_v ⟨target_, util_, stable_, panic_, grain_, threshold_, up_, down_, min_, max_, initial_, grace_, delay_, burst_, limit_, queue_, timeout_, ready_, subset_, sample_⟩ _).trans h⟩
  · cases h)
noncomputable def G11 : Env := Env.add 11 H11 G9
theorem G11_ok : EnvOk Tryz.prog G11 := envAdd_ok H11_ok G9_ok

/-! spinnakerref12.Steady -/
def F6 : FCfg := ⟨keepAt [(0, [1, 2, 3, 4]), (1, [1, 2, 3, 9]), (2, [1, 2, 3, 9, 18]), (3, [8]), (4, [1, 2, 3, 9, 10]), (5, [1, 2, 3, 9, 10]), (6, [1, 3, 9, 10, 11]), (7, [1, 3, 9, 10, 11, 12]), (8, [1, 3, 9, 10, 11, 12, 30]), (9, [1, 3, 9, 10, 11, 12]), (10, [1, 3, 9, 10, 11, 12]), (11, [1, 3, 9, 10, 12, 13]), (12, [1, 3, 9, 10, 12, 13]), (13, [1, 3, 9, 10, 11, 12]), (14, [8])], loopAt [(8, [1, 3, 9, 10, 11, 12], [⟨0, true, 10, [], 0, .pair (.int .i64) (.pair (.int .i64) (.pair (.int .i64) (.pair (.int .i64) (.pair (.bool) (.int .i64))))), none⟩])], []⟩
noncomputable def C_rsteady (fu : Nat) (c : Cf) (load r m : Int) : Cfg := Cfg.of tis F6 fu (List.length ([] : List Blk)) Tryz.f6.ntmps
noncomputable def S.rsteady_b0 : Code := codeAt (bodyOf Tryz.f6) [1, 1, 1, 1, 1, 1, 0, 1, 0, 0]
noncomputable def S.rsteady_s0 (c : Cf) (load r m : Int) (y0 : Nat) (y1 : Int) (y2 : Int) (y3 : Cf) (y4 : Int) (y5 : Int) (y6 : Int) (y7 : Rr) (y8 : Rr) (y9 : Rd) (y10 : List (Int × Int × Int × Int × Bool × Int)) : St := ⟨[(1, (.int .i64 (S.rclamp load 0 1000000000))), (3, (.int .i64 (m))), (9, (.ptr 0 (0) 0)), (10, (.slice 6 8 (0) (y0) none)), (11, (.int .i64 (y1))), (12, (.int .i64 (y2)))], [(.var (cfA y3 ++ [(.ptr 1 (0) 0), (.int .i64 (y4)), (.int .i64 (y5)), (.ptr 6 (0) 0), (.int .i64 (y6))])), (.var [(.ptr 2 (0) 0), (.ptr 4 (0) 0)]), (.var [(.int .i64 (y7.w)), (.int .i64 (y7.g)), (.slice 2 3 (y7.lo) (y7.len) none), (.int .i64 (y7.nw)), (.bool (y7.ov))]), (.rows (Cd.pair (Cd.int .i64) (Cd.int .i64)) (y7.r) false), (.var [(.int .i64 (y8.w)), (.int .i64 (y8.g)), (.slice 2 5 (y8.lo) (y8.len) none), (.int .i64 (y8.nw)), (.bool (y8.ov))]), (.rows (Cd.pair (Cd.int .i64) (Cd.int .i64)) (y8.r) false), (.var [(.int .i64 (y9.sp)), (.slice 2 7 (y9.lo) (y9.len) none)]), (.rows (Cd.pair (Cd.int .i64) (Cd.int .i64)) (y9.r) false), (.rows (Cd.pair (Cd.int .i64) (Cd.pair (Cd.int .i64) (Cd.pair (Cd.int .i64) (Cd.pair (Cd.int .i64) (Cd.pair Cd.bool (Cd.int .i64)))))) (y10) false)]⟩
noncomputable def S.rsteady_x0_0 (c : Cf) (load r m : Int) (z0 : Nat) (z1 : Int) (z2 : Int) (z3 : Bool) (z4 : Cf) (z5 : Int) (z6 : Int) (z7 : Int) (z8 : Rr) (z9 : Rr) (z10 : Rd) (z11 : List (Int × Int × Int × Int × Bool × Int)) : St := ⟨[(1, (.int .i64 (S.rclamp load 0 1000000000))), (3, (.int .i64 (m))), (9, (.ptr 0 (0) 0)), (10, (.slice 6 8 (0) (z0) none)), (11, (.int .i64 (z1))), (12, (.int .i64 (z2))), (30, (.bool (z3)))], [(.var (cfA z4 ++ [(.ptr 1 (0) 0), (.int .i64 (z5)), (.int .i64 (z6)), (.ptr 6 (0) 0), (.int .i64 (z7))])), (.var [(.ptr 2 (0) 0), (.ptr 4 (0) 0)]), (.var [(.int .i64 (z8.w)), (.int .i64 (z8.g)), (.slice 2 3 (z8.lo) (z8.len) none), (.int .i64 (z8.nw)), (.bool (z8.ov))]), (.rows (Cd.pair (Cd.int .i64) (Cd.int .i64)) (z8.r) false), (.var [(.int .i64 (z9.w)), (.int .i64 (z9.g)), (.slice 2 5 (z9.lo) (z9.len) none), (.int .i64 (z9.nw)), (.bool (z9.ov))]), (.rows (Cd.pair (Cd.int .i64) (Cd.int .i64)) (z9.r) false), (.var [(.int .i64 (z10.sp)), (.slice 2 7 (z10.lo) (z10.len) none)]), (.rows (Cd.pair (Cd.int .i64) (Cd.int .i64)) (z10.r) false), (.rows (Cd.pair (Cd.int .i64) (Cd.pair (Cd.int .i64) (Cd.pair (Cd.int .i64) (Cd.pair (Cd.int .i64) (Cd.pair Cd.bool (Cd.int .i64)))))) (z11) false)]⟩
noncomputable def S.rsteady_g0 {R : Type} (c : Cf) (load r m : Int) (K : Ex → St → Option R) : ((Nat × Int × Int × Bool × Cf × Int × Int × Int × Rr × Rr × Rd × List (Int × Int × Int × Int × Bool × Int))) → Option R := (fun z : Nat × Int × Int × Bool × Cf × Int × Int × Int × Rr × Rr × Rd × List (Int × Int × Int × Int × Bool × Int) => K (Ex.exit 0) (S.rsteady_x0_0 c load r m (z.1) (z.2.1) (z.2.2.1) (z.2.2.2.1) (z.2.2.2.2.1) (z.2.2.2.2.2.1) (z.2.2.2.2.2.2.1) (z.2.2.2.2.2.2.2.1) (z.2.2.2.2.2.2.2.2.1) (z.2.2.2.2.2.2.2.2.2.1) (z.2.2.2.2.2.2.2.2.2.2.1) (z.2.2.2.2.2.2.2.2.2.2.2)))
noncomputable def S.rsteady_gk {R : Type} (c : Cf) (load r m : Int) (k : AVal → List Blk → Option R) : ((Unit) ⊕ (Nat × List (Int × Int × Int × Int × Bool × Int))) → Option R := (Sum.elim (fun v : Unit => k .nils []) (fun v : Nat × List (Int × Int × Int × Int × Bool × Int) => k (.slice 6 0 (0) v.1 none) [(.rows (Cd.pair (Cd.int .i64) (Cd.pair (Cd.int .i64) (Cd.pair (Cd.int .i64) (Cd.pair (Cd.int .i64) (Cd.pair Cd.bool (Cd.int .i64)))))) v.2 false)]))
theorem S.rsteady_l0_k {R : Type} (fu : Nat) (c : Cf) (load r m : Int) (n : Nat) (K : Ex → St → Option R) (y0 : Nat) (y1 : Int) (y2 : Int) (y3 : Cf) (y4 : Int) (y5 : Int) (y6 : Int) (y7 : Rr) (y8 : Rr) (y9 : Rd) (y10 : List (Int × Int × Int × Int × Bool × Int)) : loopRun (C_rsteady fu c load r m) G11 S.rsteady_b0 (n + 1) (S.rsteady_s0 c load r m (y0) (y1) (y2) (y3) (y4) (y5) (y6) (y7) (y8) (y9) (y10)) K =
  (bif decide (y2 ≤ m) then
   bif decide (y2 ≤ 30000) then
   (optK (S.q_rmput y7.w y7.g y7.lo y7.len y7.nw y7.ov y7.r y8.w y8.g y8.lo y8.len y8.nw y8.ov y8.r y2 (S.rclamp load 0 1000000000)) fun o4 =>
   (optK (S.q_rdcnext y3 y4 y5 y6 o4.2.1 o4.2.2 y9 y2 y1) fun o5 =>
   bif Nat.beq 6 6 && Nat.blt 0 48 && Nat.beq 6 6 && Nat.beq 6 6 && Nat.beq 6 6 && Nat.blt 0 1 && !Nat.beq 8 19 && Nat.ble ((y0 + 1) * 48) 35184372088832 then
   loopRun (C_rsteady fu c load r m) G11 S.rsteady_b0 n (S.rsteady_s0 c load r m (List.length (cutL y10 0 y0 ++ cutL [(o5.1, o5.2.1, o5.2.2.1, o5.2.2.2.1, o5.2.2.2.2.1, o5.2.2.2.2.2.1)] 0 1)) (o5.2.2.2.1) (Go.IntKind.wrap .i64 (y2 + 1)) (o5.2.2.2.2.2.2.2.1) (o5.2.2.2.2.2.2.2.2.1) (o5.2.2.2.2.2.2.2.2.2.1) (o5.2.2.2.2.2.2.2.2.2.2.1) (o5.2.2.2.2.2.2.2.2.2.2.2.1) (o5.2.2.2.2.2.2.2.2.2.2.2.2.1) (o5.2.2.2.2.2.2.2.2.2.2.2.2.2) (cutL y10 0 y0 ++ cutL [(o5.1, o5.2.1, o5.2.2.1, o5.2.2.2.1, o5.2.2.2.2.1, o5.2.2.2.2.2.1)] 0 1)) K
 else
   none))
 else
   K (Ex.exit 0) (S.rsteady_x0_0 c load r m (y0) (y1) (y2) (decide (y2 ≤ 30000)) (y3) (y4) (y5) (y6) (y7) (y8) (y9) (y10))
 else
   K (Ex.exit 0) (S.rsteady_x0_0 c load r m (y0) (y1) (y2) (false) (y3) (y4) (y5) (y6) (y7) (y8) (y9) (y10))) := by kernel_rfl
noncomputable def S.rsteady_l0 (fu : Nat) (c : Cf) (load r m : Int) : Nat → (Nat) → (Int) → (Int) → (Cf) → (Int) → (Int) → (Int) → (Rr) → (Rr) → (Rd) → (List (Int × Int × Int × Int × Bool × Int)) → Option ((Nat × Int × Int × Bool × Cf × Int × Int × Int × Rr × Rr × Rd × List (Int × Int × Int × Int × Bool × Int)))
  | 0, _, _, _, _, _, _, _, _, _, _, _ => none
  | n + 1, y0, y1, y2, y3, y4, y5, y6, y7, y8, y9, y10 =>
    bif decide (y2 ≤ m) then
   bif decide (y2 ≤ 30000) then
   (optK (S.q_rmput y7.w y7.g y7.lo y7.len y7.nw y7.ov y7.r y8.w y8.g y8.lo y8.len y8.nw y8.ov y8.r y2 (S.rclamp load 0 1000000000)) fun o4 =>
   (optK (S.q_rdcnext y3 y4 y5 y6 o4.2.1 o4.2.2 y9 y2 y1) fun o5 =>
   bif Nat.beq 6 6 && Nat.blt 0 48 && Nat.beq 6 6 && Nat.beq 6 6 && Nat.beq 6 6 && Nat.blt 0 1 && !Nat.beq 8 19 && Nat.ble ((y0 + 1) * 48) 35184372088832 then
   (S.rsteady_l0 fu c load r m n) (List.length (cutL y10 0 y0 ++ cutL [(o5.1, o5.2.1, o5.2.2.1, o5.2.2.2.1, o5.2.2.2.2.1, o5.2.2.2.2.2.1)] 0 1)) (o5.2.2.2.1) (Go.IntKind.wrap .i64 (y2 + 1)) (o5.2.2.2.2.2.2.2.1) (o5.2.2.2.2.2.2.2.2.1) (o5.2.2.2.2.2.2.2.2.2.1) (o5.2.2.2.2.2.2.2.2.2.2.1) (o5.2.2.2.2.2.2.2.2.2.2.2.1) (o5.2.2.2.2.2.2.2.2.2.2.2.2.1) (o5.2.2.2.2.2.2.2.2.2.2.2.2.2) (cutL y10 0 y0 ++ cutL [(o5.1, o5.2.1, o5.2.2.1, o5.2.2.2.1, o5.2.2.2.2.1, o5.2.2.2.2.2.1)] 0 1)
 else
   none))
 else
   some (y0, y1, y2, decide (y2 ≤ 30000), y3, y4, y5, y6, y7, y8, y9, y10)
 else
   some (y0, y1, y2, false, y3, y4, y5, y6, y7, y8, y9, y10)
theorem S.rsteady_l0_v {R : Type} (fu : Nat) (c : Cf) (load r m : Int) (K : Ex → St → Option R) : ∀ (n : Nat) (y0 : Nat) (y1 : Int) (y2 : Int) (y3 : Cf) (y4 : Int) (y5 : Int) (y6 : Int) (y7 : Rr) (y8 : Rr) (y9 : Rd) (y10 : List (Int × Int × Int × Int × Bool × Int)), loopRun (C_rsteady fu c load r m) G11 S.rsteady_b0 n (S.rsteady_s0 c load r m (y0) (y1) (y2) (y3) (y4) (y5) (y6) (y7) (y8) (y9) (y10)) K = oK (β := (Nat × Int × Int × Bool × Cf × Int × Int × Int × Rr × Rr × Rd × List (Int × Int × Int × Int × Bool × Int))) (S.rsteady_g0 c load r m K) (S.rsteady_l0 fu c load r m n y0 y1 y2 y3 y4 y5 y6 y7 y8 y9 y10)
  | 0, _, _, _, _, _, _, _, _, _, _, _ => rfl
  | n + 1, y0, y1, y2, y3, y4, y5, y6, y7, y8, y9, y10 => (S.rsteady_l0_k fu c load r m n K y0 y1 y2 y3 y4 y5 y6 y7 y8 y9 y10).trans (bif_lift (f := (oK (S.rsteady_g0 c load r m K))) (bif_lift (f := (oK (S.rsteady_g0 c load r m K))) (opt_lift fun o4 => (opt_lift fun o5 => (bif_lift (f := (oK (S.rsteady_g0 c load r m K))) (S.rsteady_l0_v fu c load r m K n (List.length (cutL y10 0 y0 ++ cutL [(o5.1, o5.2.1, o5.2.2.1, o5.2.2.2.1, o5.2.2.2.2.1, o5.2.2.2.2.2.1)] 0 1)) (o5.2.2.2.1) (Go.IntKind.wrap .i64 (y2 + 1)) (o5.2.2.2.2.2.2.2.1) (o5.2.2.2.2.2.2.2.2.1) (o5.2.2.2.2.2.2.2.2.2.1) (o5.2.2.2.2.2.2.2.2.2.2.1) (o5.2.2.2.2.2.2.2.2.2.2.2.1) (o5.2.2.2.2.2.2.2.2.2.2.2.2.1) (o5.2.2.2.2.2.2.2.2.2.2.2.2.2) (cutL y10 0 y0 ++ cutL [(o5.1, o5.2.1, o5.2.2.1, o5.2.2.2.1, o5.2.2.2.2.1, o5.2.2.2.2.2.1)] 0 1)) rfl))) rfl) rfl)
noncomputable def S.rsteady_a0_0 (fu : Nat) (c : Cf) (load r m : Int) (z0 : Nat) (z1 : Int) (z2 : Int) (z3 : Bool) (z4 : Cf) (z5 : Int) (z6 : Int) (z7 : Int) (z8 : Rr) (z9 : Rr) (z10 : Rd) (z11 : List (Int × Int × Int × Int × Bool × Int)) : Option ((Unit) ⊕ (Nat × List (Int × Int × Int × Int × Bool × Int))) :=
  some (.inr (z0, z11))
theorem S.rsteady_a0_0_v {R : Type} (fu : Nat) (c : Cf) (load r m : Int) (z0 : Nat) (z1 : Int) (z2 : Int) (z3 : Bool) (z4 : Cf) (z5 : Int) (z6 : Int) (z7 : Int) (z8 : Rr) (z9 : Rr) (z10 : Rd) (z11 : List (Int × Int × Int × Int × Bool × Int)) (k : AVal → List Blk → Option R) : contOf (C_rsteady fu c load r m) G11 (bodyOf Tryz.f6) [1, 1, 1, 1, 1, 1, 0, 1, 0] (retK tis F6 Tryz.f6 (List.length ([] : List Blk)) k) (Ex.exit 0) (S.rsteady_x0_0 c load r m (z0) (z1) (z2) (z3) (z4) (z5) (z6) (z7) (z8) (z9) (z10) (z11)) = oK (S.rsteady_gk c load r m k) (S.rsteady_a0_0 fu c load r m z0 z1 z2 z3 z4 z5 z6 z7 z8 z9 z10 z11) :=
  (show contOf (C_rsteady fu c load r m) G11 (bodyOf Tryz.f6) [1, 1, 1, 1, 1, 1, 0, 1, 0] (retK tis F6 Tryz.f6 (List.length ([] : List Blk)) k) (Ex.exit 0) (S.rsteady_x0_0 c load r m (z0) (z1) (z2) (z3) (z4) (z5) (z6) (z7) (z8) (z9) (z10) (z11)) =
  ((S.rsteady_gk c load r m k) (.inr (z0, z11))) from by kernel_rfl).trans rfl
noncomputable def S.rsteady_L {R : Type} (fu : Nat) (c : Cf) (load r m : Int) (k : AVal → List Blk → Option R) : Option R := fnEval tis F6 fu G11 Tryz.f6 [.agg (cfA c), .int .i64 load, .int .i64 r, .int .i64 m] [] k
noncomputable def S.rsteady (fu : Nat) (c : Cf) (load r m : Int) : Option ((Unit) ⊕ (Nat × List (Int × Int × Int × Int × Bool × Int))) :=
  (optK (S.q_rdcnew_p c) fun o2 =>
   (Sum.elim (fun o3 : Unit =>
    some (.inl ())) (fun o3 : Cf × Rr × Rr × Rd =>
    optK (S.rsteady_l0 fu c load r m fu (0) (if 100 < if 0 > r then 0 else r then 100 else if 0 > r then 0 else r) (1) (o3.1) (-1) (0) (0) (o3.2.1) (o3.2.2.1) (o3.2.2.2) ([])) (fun z : Nat × Int × Int × Bool × Cf × Int × Int × Int × Rr × Rr × Rd × List (Int × Int × Int × Int × Bool × Int) => S.rsteady_a0_0 fu c load r m (z.1) (z.2.1) (z.2.2.1) (z.2.2.2.1) (z.2.2.2.2.1) (z.2.2.2.2.2.1) (z.2.2.2.2.2.2.1) (z.2.2.2.2.2.2.2.1) (z.2.2.2.2.2.2.2.2.1) (z.2.2.2.2.2.2.2.2.2.1) (z.2.2.2.2.2.2.2.2.2.2.1) (z.2.2.2.2.2.2.2.2.2.2.2))) (o2)))
theorem S.rsteady_v {R : Type} (fu : Nat) (c : Cf) (load r m : Int) (k : AVal → List Blk → Option R) : S.rsteady_L fu c load r m k = oK (S.rsteady_gk c load r m k) (S.rsteady fu c load r m) :=
  (show S.rsteady_L fu c load r m k =
  ((optK (S.q_rdcnew_p c) fun o2 =>
   (Sum.elim (fun o3 : Unit =>
    (S.rsteady_gk c load r m k) (.inl ())) (fun o3 : Cf × Rr × Rr × Rd =>
    loopRun (C_rsteady fu c load r m) G11 S.rsteady_b0 fu (S.rsteady_s0 c load r m (0) (if 100 < if 0 > r then 0 else r then 100 else if 0 > r then 0 else r) (1) (o3.1) (-1) (0) (0) (o3.2.1) (o3.2.2.1) (o3.2.2.2) ([])) (contOf (C_rsteady fu c load r m) G11 (bodyOf Tryz.f6) [1, 1, 1, 1, 1, 1, 0, 1, 0] (retK tis F6 Tryz.f6 (List.length ([] : List Blk)) k))) (o2)))) from by kernel_rfl).trans (by
      unfold S.rsteady
      refine opt_lift fun o2 => ?_
      refine sumF_lift (f := (oK (S.rsteady_gk c load r m k))) (fun o3 => ?_) (fun o3 => ?_) _
      · 
        exact rfl
      · 
        exact (arr_lift (S.rsteady_l0_v fu c load r m (contOf (C_rsteady fu c load r m) G11 (bodyOf Tryz.f6) [1, 1, 1, 1, 1, 1, 0, 1, 0] (retK tis F6 Tryz.f6 (List.length ([] : List Blk)) k)) fu (0) (if 100 < if 0 > r then 0 else r then 100 else if 0 > r then 0 else r) (1) (o3.1) (-1) (0) (0) (o3.2.1) (o3.2.2.1) (o3.2.2.2) ([])) ((fun z => S.rsteady_a0_0_v fu c load r m (z.1) (z.2.1) (z.2.2.1) (z.2.2.2.1) (z.2.2.2.2.1) (z.2.2.2.2.2.1) (z.2.2.2.2.2.2.1) (z.2.2.2.2.2.2.2.1) (z.2.2.2.2.2.2.2.2.1) (z.2.2.2.2.2.2.2.2.2.1) (z.2.2.2.2.2.2.2.2.2.2.1) (z.2.2.2.2.2.2.2.2.2.2.2) k)))
      )
noncomputable def H6 : Hnd := fun R args σ k => match args, σ with
  | [.agg [.int .i64 target_, .int .i64 util_, .int .i64 stable_, .int .i64 panic_, .int .i64 grain_, .int .i64 threshold_, .int .i64 up_, .int .i64 down_, .int .i64 min_, .int .i64 max_, .int .i64 initial_, .int .i64 grace_, .int .i64 delay_, .int .i64 burst_, .int .i64 limit_, .int .i64 queue_, .int .i64 timeout_, .int .i64 ready_, .int .i64 subset_, .int .i64 sample_], .int .i64 load, .int .i64 r, .int .i64 m], [] => oK (Sum.elim (fun v : Unit => k .nils []) (fun v : Nat × List (Int × Int × Int × Int × Bool × Int) => k (.slice 6 0 (0) v.1 none) [(.rows (Cd.pair (Cd.int .i64) (Cd.pair (Cd.int .i64) (Cd.pair (Cd.int .i64) (Cd.pair (Cd.int .i64) (Cd.pair Cd.bool (Cd.int .i64)))))) v.2 false)])) (S.rsteady 100000 ⟨target_, util_, stable_, panic_, grain_, threshold_, up_, down_, min_, max_, initial_, grace_, delay_, burst_, limit_, queue_, timeout_, ready_, subset_, sample_⟩ load r m)
  | _, _ => none
theorem H6_ok : HndOk Tryz.prog 6 H6 := hnd_ok tis tisOk mixOk G11_ok F6 Tryz.func6 rfl (by
  intro R args σ k r h
  unfold H6 at h
  split at h
  · rename_i target_ util_ stable_ panic_ grain_ threshold_ up_ down_ min_ max_ initial_ grace_ delay_ burst_ limit_ queue_ timeout_ ready_ subset_ sample_ load r m; exact ⟨100000, (S.rsteady_v 100000 ⟨target_, util_, stable_, panic_, grain_, threshold_, up_, down_, min_, max_, initial_, grace_, delay_, burst_, limit_, queue_, timeout_, ready_, subset_, sample_⟩ load r m _).trans h⟩
  · cases h)
noncomputable def G6 : Env := Env.add 6 H6 G11
theorem G6_ok : EnvOk Tryz.prog G6 := envAdd_ok H6_ok G11_ok
end Go.Proofs.YtdgipcjigbagfaaGreat.AB
