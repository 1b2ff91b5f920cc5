/- The document's two windows, as plain functions. -/
import Derived.Test.YtdgipcjigbagfaaGreatSrref
namespace Go.Proofs.YtdgipcjigbagfaaGreat.AB
set_option linter.unusedVariables false

/-- the document's ring -/
structure Rr where
  w : Int
  g : Int
  lo : Nat
  len : Nat
  nw : Int
  ov : Bool
  r : RL
/-- the document's delay -/
structure Rd where
  sp : Int
  lo : Nat
  len : Nat
  r : RL

/-! spinnakerref5.NewMetric -/
def F36 : FCfg := ⟨keepAt [(0, [1]), (1, [1, 5]), (2, [2]), (3, [2])], loopAt [], [⟨1, true, 0, [0], 2, (.pair (.int .i64) (.int .i64)), none⟩, ⟨1, true, 0, [1], 2, (.pair (.int .i64) (.int .i64)), none⟩]⟩
noncomputable def S.rmnew_L {R : Type} (c : Cf) (k : AVal → List Blk → Option R) : Option R := fnEval tis F36 0 G81 Tryz.f36 [.agg (cfA c)] [] k
noncomputable def S.rmnew_gk {R : Type} (c : Cf) (k : AVal → List Blk → Option R) : ((Unit) ⊕ (Unit) ⊕ (Rr) ⊕ (Rr) ⊕ (Rr × Rr)) → Option R := (Sum.elim (fun v : Unit => k .nilp []) (Sum.elim (fun v : Unit => k (.ptr 0 (0) 0) [(.var [.nilp, .nilp])]) (Sum.elim (fun v : Rr => k (.ptr 0 (0) 0) [(.var [.nilp, (.ptr 1 (0) 0)]), (.var [(.int .i64 (v.w)), (.int .i64 (v.g)), (.slice 2 2 (v.lo) (v.len) none), (.int .i64 (v.nw)), (.bool (v.ov))]), (.rows (Cd.pair (Cd.int .i64) (Cd.int .i64)) (v.r) false)]) (Sum.elim (fun v : Rr => k (.ptr 0 (0) 0) [(.var [(.ptr 1 (0) 0), .nilp]), (.var [(.int .i64 (v.w)), (.int .i64 (v.g)), (.slice 2 2 (v.lo) (v.len) none), (.int .i64 (v.nw)), (.bool (v.ov))]), (.rows (Cd.pair (Cd.int .i64) (Cd.int .i64)) (v.r) false)]) (fun v : Rr × Rr => k (.ptr 0 (0) 0) [(.var [(.ptr 1 (0) 0), (.ptr 3 (0) 0)]), (.var [(.int .i64 (v.1.w)), (.int .i64 (v.1.g)), (.slice 2 2 (v.1.lo) (v.1.len) none), (.int .i64 (v.1.nw)), (.bool (v.1.ov))]), (.rows (Cd.pair (Cd.int .i64) (Cd.int .i64)) (v.1.r) false), (.var [(.int .i64 (v.2.w)), (.int .i64 (v.2.g)), (.slice 2 4 (v.2.lo) (v.2.len) none), (.int .i64 (v.2.nw)), (.bool (v.2.ov))]), (.rows (Cd.pair (Cd.int .i64) (Cd.int .i64)) (v.2.r) false)])))))
noncomputable def S.rmnew (c : Cf) : (Unit) ⊕ (Unit) ⊕ (Rr) ⊕ (Rr) ⊕ (Rr × Rr) :=
  bif !S.rmay c then
   (.inl ())
 else
   (Sum.elim (fun o3 : Unit =>
    (Sum.elim (fun o4 : Unit =>
    (.inr (.inl ()))) (fun o4 : Int × Int =>
    (.inr (.inr (.inl ((⟨o4.1, o4.2, 0, 0, -1, false, []⟩ : Rr)))))) (S.rnewring c.panic c.grain))) (fun o3 : Int × Int =>
    (Sum.elim (fun o4 : Unit =>
    (.inr (.inr (.inr (.inl ((⟨o3.1, o3.2, 0, 0, -1, false, []⟩ : Rr))))))) (fun o4 : Int × Int =>
    (.inr (.inr (.inr (.inr ((⟨o3.1, o3.2, 0, 0, -1, false, []⟩ : Rr), (⟨o4.1, o4.2, 0, 0, -1, false, []⟩ : Rr))))))) (S.rnewring c.panic c.grain))) (S.rnewring c.stable c.grain))
theorem S.rmnew_v {R : Type} (c : Cf) (k : AVal → List Blk → Option R) : S.rmnew_L c k = (S.rmnew_gk c k) (S.rmnew c) :=
  (show S.rmnew_L c k =
  (bif !S.rmay c then
   (S.rmnew_gk c k) (.inl ())
 else
   (Sum.elim (fun o3 : Unit =>
    (Sum.elim (fun o4 : Unit =>
    (S.rmnew_gk c k) (.inr (.inl ()))) (fun o4 : Int × Int =>
    (S.rmnew_gk c k) (.inr (.inr (.inl ((⟨o4.1, o4.2, 0, 0, -1, false, []⟩ : Rr)))))) (S.rnewring c.panic c.grain))) (fun o3 : Int × Int =>
    (Sum.elim (fun o4 : Unit =>
    (S.rmnew_gk c k) (.inr (.inr (.inr (.inl ((⟨o3.1, o3.2, 0, 0, -1, false, []⟩ : Rr))))))) (fun o4 : Int × Int =>
    (S.rmnew_gk c k) (.inr (.inr (.inr (.inr ((⟨o3.1, o3.2, 0, 0, -1, false, []⟩ : Rr), (⟨o4.1, o4.2, 0, 0, -1, false, []⟩ : Rr))))))) (S.rnewring c.panic c.grain))) (S.rnewring c.stable c.grain))) from by kernel_rfl).trans (by
      unfold S.rmnew
      refine bif_lift (f := (S.rmnew_gk c k)) ?_ ?_
      · 
        exact rfl
      · 
        refine sumF_lift (f := (S.rmnew_gk c k)) (fun o3 => ?_) (fun o3 => ?_) _
        · 
          refine sumF_lift (f := (S.rmnew_gk c k)) (fun o4 => ?_) (fun o4 => ?_) _
          · 
            exact rfl
          · 
            exact rfl
        · 
          refine sumF_lift (f := (S.rmnew_gk c k)) (fun o4 => ?_) (fun o4 => ?_) _
          · 
            exact rfl
          · 
            exact rfl
      )
noncomputable def S.rmnew_p (c : Cf) : Option ((Unit) ⊕ (Rr × Rr)) :=
  (some (S.rmnew c)).bind (Sum.elim (fun v => some (.inl v)) (Sum.elim (fun _ => none) (Sum.elim (fun _ => none) (Sum.elim (fun _ => none) (fun v => some (.inr v))))))
noncomputable def H36 : Hnd := fun R args σ k => match args, σ with
  | [.agg [.int .i64 target_, .int .i64 util_, .int .i64 stable_, .int .i64 panic_, .int .i64 grain_, .int .i64 threshold_, .int .i64 up_, .int .i64 down_, .int .i64 min_, .int .i64 max_, .int .i64 initial_, .int .i64 grace_, .int .i64 delay_, .int .i64 burst_, .int .i64 limit_, .int .i64 queue_, .int .i64 timeout_, .int .i64 ready_, .int .i64 subset_, .int .i64 sample_]], [] => oK (Sum.elim (fun v : Unit => k .nilp []) (fun v : Rr × Rr => k (.ptr 0 (0) 0) [(.var [(.ptr 1 (0) 0), (.ptr 3 (0) 0)]), (.var [(.int .i64 (v.1.w)), (.int .i64 (v.1.g)), (.slice 2 2 (v.1.lo) (v.1.len) none), (.int .i64 (v.1.nw)), (.bool (v.1.ov))]), (.rows (Cd.pair (Cd.int .i64) (Cd.int .i64)) (v.1.r) false), (.var [(.int .i64 (v.2.w)), (.int .i64 (v.2.g)), (.slice 2 4 (v.2.lo) (v.2.len) none), (.int .i64 (v.2.nw)), (.bool (v.2.ov))]), (.rows (Cd.pair (Cd.int .i64) (Cd.int .i64)) (v.2.r) false)])) (S.rmnew_p ⟨target_, util_, stable_, panic_, grain_, threshold_, up_, down_, min_, max_, initial_, grace_, delay_, burst_, limit_, queue_, timeout_, ready_, subset_, sample_⟩)
  | _, _ => none
theorem H36_ok : HndOk Tryz.prog 36 H36 := hnd_ok tis tisOk mixOk G81_ok F36 Tryz.func36 rfl (by
  intro R args σ k r h
  unfold H36 at h
  split at h
  · rename_i target_ util_ stable_ panic_ grain_ threshold_ up_ down_ min_ max_ initial_ grace_ delay_ burst_ limit_ queue_ timeout_ ready_ subset_ sample_; exact ⟨0, (S.rmnew_v ⟨target_, util_, stable_, panic_, grain_, threshold_, up_, down_, min_, max_, initial_, grace_, delay_, burst_, limit_, queue_, timeout_, ready_, subset_, sample_⟩ _).trans (keep_lift (x := (some (S.rmnew ⟨target_, util_, stable_, panic_, grain_, threshold_, up_, down_, min_, max_, initial_, grace_, delay_, burst_, limit_, queue_, timeout_, ready_, subset_, sample_⟩))) (fun a b e => by rcases a with a | a | a | a | a <;> first | (cases e; rfl) | cases e) h)⟩
  · cases h)
noncomputable def G36 : Env := Env.add 36 H36 G81
theorem G36_ok : EnvOk Tryz.prog G36 := envAdd_ok H36_ok G81_ok

/-! (*spinnakerref5.Metric).Put -/
def F16 : FCfg := ⟨keepAt [(0, [0, 1, 2]), (1, [0, 1, 2]), (2, [6])], loopAt [], []⟩
noncomputable def S.rmput_L {R : Type} (w0 g0 : Int) (lo0 len0 : Nat) (nw0 : Int) (ov0 : Bool) (r0 : RL) (w1 g1 : Int) (lo1 len1 : Nat) (nw1 : Int) (ov1 : Bool) (r1 : RL) (t v : Int) (k : AVal → List Blk → Option R) : Option R := fnEval tis F16 0 G36 Tryz.f16 [.ptr 0 0 0, .int .i64 t, .int .i64 v] [.var [.ptr 1 0 0, .ptr 3 0 0], .var [.int .i64 w0, .int .i64 g0, .slice 2 2 lo0 len0 none, .int .i64 nw0, .bool ov0], .rows (.pair (.int .i64) (.int .i64)) r0 false, .var [.int .i64 w1, .int .i64 g1, .slice 2 4 lo1 len1 none, .int .i64 nw1, .bool ov1], .rows (.pair (.int .i64) (.int .i64)) r1 false] k
noncomputable def S.rmput_gk {R : Type} (w0 g0 : Int) (lo0 len0 : Nat) (nw0 : Int) (ov0 : Bool) (r0 : RL) (w1 g1 : Int) (lo1 len1 : Nat) (nw1 : Int) (ov1 : Bool) (r1 : RL) (t v : Int) (k : AVal → List Blk → Option R) : (Int × Rr × Rr) → Option R := (fun v : Int × Rr × Rr => k (.int .i64 v.1) [(.var [(.ptr 1 (0) 0), (.ptr 3 (0) 0)]), (.var [(.int .i64 (v.2.1.w)), (.int .i64 (v.2.1.g)), (.slice 2 5 (v.2.1.lo) (v.2.1.len) none), (.int .i64 (v.2.1.nw)), (.bool (v.2.1.ov))]), .dead, (.var [(.int .i64 (v.2.2.w)), (.int .i64 (v.2.2.g)), (.slice 2 6 (v.2.2.lo) (v.2.2.len) none), (.int .i64 (v.2.2.nw)), (.bool (v.2.2.ov))]), .dead, (.rows (Cd.pair (Cd.int .i64) (Cd.int .i64)) (v.2.1.r) false), (.rows (Cd.pair (Cd.int .i64) (Cd.int .i64)) (v.2.2.r) false)])
noncomputable def S.rmput (w0 g0 : Int) (lo0 len0 : Nat) (nw0 : Int) (ov0 : Bool) (r0 : RL) (w1 g1 : Int) (lo1 len1 : Nat) (nw1 : Int) (ov1 : Bool) (r1 : RL) (t v : Int) : Option (Int × Rr × Rr) :=
  (optK (S.rput r0 lo0 len0 w0 g0 nw0 ov0 t v) fun o2 =>
   (optK (S.rput r1 lo1 len1 w1 g1 nw1 ov1 t v) fun o3 =>
   some (o3.1, (⟨o2.2.1, o2.2.2.1, o2.2.2.2.1, o2.2.2.2.2.1, o2.2.2.2.2.2.1, o2.2.2.2.2.2.2.1, o2.2.2.2.2.2.2.2⟩ : Rr), (⟨o3.2.1, o3.2.2.1, o3.2.2.2.1, o3.2.2.2.2.1, o3.2.2.2.2.2.1, o3.2.2.2.2.2.2.1, o3.2.2.2.2.2.2.2⟩ : Rr))))
theorem S.rmput_v {R : Type} (w0 g0 : Int) (lo0 len0 : Nat) (nw0 : Int) (ov0 : Bool) (r0 : RL) (w1 g1 : Int) (lo1 len1 : Nat) (nw1 : Int) (ov1 : Bool) (r1 : RL) (t v : Int) (k : AVal → List Blk → Option R) : S.rmput_L w0 g0 lo0 len0 nw0 ov0 r0 w1 g1 lo1 len1 nw1 ov1 r1 t v k = oK (S.rmput_gk w0 g0 lo0 len0 nw0 ov0 r0 w1 g1 lo1 len1 nw1 ov1 r1 t v k) (S.rmput w0 g0 lo0 len0 nw0 ov0 r0 w1 g1 lo1 len1 nw1 ov1 r1 t v) :=
  (show S.rmput_L w0 g0 lo0 len0 nw0 ov0 r0 w1 g1 lo1 len1 nw1 ov1 r1 t v k =
  ((optK (S.rput r0 lo0 len0 w0 g0 nw0 ov0 t v) fun o2 =>
   (optK (S.rput r1 lo1 len1 w1 g1 nw1 ov1 t v) fun o3 =>
   (S.rmput_gk w0 g0 lo0 len0 nw0 ov0 r0 w1 g1 lo1 len1 nw1 ov1 r1 t v k) (o3.1, (⟨o2.2.1, o2.2.2.1, o2.2.2.2.1, o2.2.2.2.2.1, o2.2.2.2.2.2.1, o2.2.2.2.2.2.2.1, o2.2.2.2.2.2.2.2⟩ : Rr), (⟨o3.2.1, o3.2.2.1, o3.2.2.2.1, o3.2.2.2.2.1, o3.2.2.2.2.2.1, o3.2.2.2.2.2.2.1, o3.2.2.2.2.2.2.2⟩ : Rr))))) from by kernel_rfl).trans (opt_lift fun o2 => (opt_lift fun o3 => rfl))
noncomputable def H16 : Hnd := fun R args σ k => match args, σ with
  | [.ptr 0 0 0, .int .i64 t, .int .i64 v], [.var [.ptr 1 0 0, .ptr 3 0 0], .var [.int .i64 w0, .int .i64 g0, .slice 2 2 lo0 len0 none, .int .i64 nw0, .bool ov0], .rows (.pair (.int .i64) (.int .i64)) r0 false, .var [.int .i64 w1, .int .i64 g1, .slice 2 4 lo1 len1 none, .int .i64 nw1, .bool ov1], .rows (.pair (.int .i64) (.int .i64)) r1 false] => oK (fun v : Int × Rr × Rr => k (.int .i64 v.1) [(.var [(.ptr 1 (0) 0), (.ptr 3 (0) 0)]), (.var [(.int .i64 (v.2.1.w)), (.int .i64 (v.2.1.g)), (.slice 2 5 (v.2.1.lo) (v.2.1.len) none), (.int .i64 (v.2.1.nw)), (.bool (v.2.1.ov))]), .dead, (.var [(.int .i64 (v.2.2.w)), (.int .i64 (v.2.2.g)), (.slice 2 6 (v.2.2.lo) (v.2.2.len) none), (.int .i64 (v.2.2.nw)), (.bool (v.2.2.ov))]), .dead, (.rows (Cd.pair (Cd.int .i64) (Cd.int .i64)) (v.2.1.r) false), (.rows (Cd.pair (Cd.int .i64) (Cd.int .i64)) (v.2.2.r) false)]) (S.rmput w0 g0 lo0 len0 nw0 ov0 r0 w1 g1 lo1 len1 nw1 ov1 r1 t v)
  | _, _ => none
theorem H16_ok : HndOk Tryz.prog 16 H16 := hnd_ok tis tisOk mixOk G36_ok F16 Tryz.func16 rfl (by
  intro R args σ k r h
  unfold H16 at h
  split at h
  · rename_i t v w0 g0 lo0 len0 nw0 ov0 r0 w1 g1 lo1 len1 nw1 ov1 r1; exact ⟨0, (S.rmput_v w0 g0 lo0 len0 nw0 ov0 r0 w1 g1 lo1 len1 nw1 ov1 r1 t v _).trans h⟩
  · cases h)
noncomputable def G16 : Env := Env.add 16 H16 G36
theorem G16_ok : EnvOk Tryz.prog G16 := envAdd_ok H16_ok G36_ok

/-! (*spinnakerref5.Metric).Over -/
def F23 : FCfg := ⟨keepAt [(0, [0]), (1, [2])], loopAt [], []⟩
noncomputable def S.rmover_L {R : Type} (w0 g0 : Int) (lo0 len0 : Nat) (nw0 : Int) (ov0 : Bool) (r0 : RL) (w1 g1 : Int) (lo1 len1 : Nat) (nw1 : Int) (ov1 : Bool) (r1 : RL) (k : AVal → List Blk → Option R) : Option R := fnEval tis F23 0 G16 Tryz.f23 [.ptr 0 0 0] [.var [.ptr 1 0 0, .ptr 3 0 0], .var [.int .i64 w0, .int .i64 g0, .slice 2 2 lo0 len0 none, .int .i64 nw0, .bool ov0], .rows (.pair (.int .i64) (.int .i64)) r0 false, .var [.int .i64 w1, .int .i64 g1, .slice 2 4 lo1 len1 none, .int .i64 nw1, .bool ov1], .rows (.pair (.int .i64) (.int .i64)) r1 false] k
noncomputable def S.rmover_gk {R : Type} (w0 g0 : Int) (lo0 len0 : Nat) (nw0 : Int) (ov0 : Bool) (r0 : RL) (w1 g1 : Int) (lo1 len1 : Nat) (nw1 : Int) (ov1 : Bool) (r1 : RL) (k : AVal → List Blk → Option R) : (Bool) → Option R := (fun v : Bool => k (.bool v) [.var [.ptr 1 0 0, .ptr 3 0 0], .var [.int .i64 w0, .int .i64 g0, .slice 2 2 lo0 len0 none, .int .i64 nw0, .bool ov0], .rows (.pair (.int .i64) (.int .i64)) r0 false, .var [.int .i64 w1, .int .i64 g1, .slice 2 4 lo1 len1 none, .int .i64 nw1, .bool ov1], .rows (.pair (.int .i64) (.int .i64)) r1 false])
noncomputable def S.rmover (w0 g0 : Int) (lo0 len0 : Nat) (nw0 : Int) (ov0 : Bool) (r0 : RL) (w1 g1 : Int) (lo1 len1 : Nat) (nw1 : Int) (ov1 : Bool) (r1 : RL) : Bool :=
  bif ov0 then
   (true)
 else
   (ov1)
theorem S.rmover_v {R : Type} (w0 g0 : Int) (lo0 len0 : Nat) (nw0 : Int) (ov0 : Bool) (r0 : RL) (w1 g1 : Int) (lo1 len1 : Nat) (nw1 : Int) (ov1 : Bool) (r1 : RL) (k : AVal → List Blk → Option R) : S.rmover_L w0 g0 lo0 len0 nw0 ov0 r0 w1 g1 lo1 len1 nw1 ov1 r1 k = k (.bool (S.rmover w0 g0 lo0 len0 nw0 ov0 r0 w1 g1 lo1 len1 nw1 ov1 r1)) [.var [.ptr 1 0 0, .ptr 3 0 0], .var [.int .i64 w0, .int .i64 g0, .slice 2 2 lo0 len0 none, .int .i64 nw0, .bool ov0], .rows (.pair (.int .i64) (.int .i64)) r0 false, .var [.int .i64 w1, .int .i64 g1, .slice 2 4 lo1 len1 none, .int .i64 nw1, .bool ov1], .rows (.pair (.int .i64) (.int .i64)) r1 false] :=
  (show S.rmover_L w0 g0 lo0 len0 nw0 ov0 r0 w1 g1 lo1 len1 nw1 ov1 r1 k =
  (bif ov0 then
   (S.rmover_gk w0 g0 lo0 len0 nw0 ov0 r0 w1 g1 lo1 len1 nw1 ov1 r1 k) (true)
 else
   (S.rmover_gk w0 g0 lo0 len0 nw0 ov0 r0 w1 g1 lo1 len1 nw1 ov1 r1 k) (ov1)) from by kernel_rfl).trans (bif_lift (f := (S.rmover_gk w0 g0 lo0 len0 nw0 ov0 r0 w1 g1 lo1 len1 nw1 ov1 r1 k)) rfl rfl)
noncomputable def H23 : Hnd := fun R args σ k => match args, σ with
  | [.ptr 0 0 0], [.var [.ptr 1 0 0, .ptr 3 0 0], .var [.int .i64 w0, .int .i64 g0, .slice 2 2 lo0 len0 none, .int .i64 nw0, .bool ov0], .rows (.pair (.int .i64) (.int .i64)) r0 false, .var [.int .i64 w1, .int .i64 g1, .slice 2 4 lo1 len1 none, .int .i64 nw1, .bool ov1], .rows (.pair (.int .i64) (.int .i64)) r1 false] => k (.bool (S.rmover w0 g0 lo0 len0 nw0 ov0 r0 w1 g1 lo1 len1 nw1 ov1 r1)) []
  | _, _ => none
theorem H23_ok : HndOk Tryz.prog 23 H23 := hnd_ok_pure tis tisOk mixOk G16_ok F23 Tryz.func23 rfl (by
  intro R args σ k r h
  unfold H23 at h
  split at h
  · rename_i w0 g0 lo0 len0 nw0 ov0 r0 w1 g1 lo1 len1 nw1 ov1 r1; exact ⟨0, (S.rmover_v w0 g0 lo0 len0 nw0 ov0 r0 w1 g1 lo1 len1 nw1 ov1 r1 _).trans ((if_pos rfl).trans h)⟩
  · cases h)
noncomputable def G23 : Env := Env.add 23 H23 G16
theorem G23_ok : EnvOk Tryz.prog G23 := envAdd_ok H23_ok G16_ok

/-! (*spinnakerref5.Metric).Change -/
def F44 : FCfg := ⟨keepAt [(0, [0, 3]), (1, [0, 3, 8]), (2, [4]), (3, [0, 3, 18]), (4, [0, 3, 5]), (5, [0, 5]), (6, []), (7, [4]), (8, [0, 3]), (9, []), (10, [4])], loopAt [], [⟨1, false, 0, [0], 2, (.pair (.int .i64) (.int .i64)), none⟩, ⟨1, false, 0, [1], 2, (.pair (.int .i64) (.int .i64)), none⟩, ⟨2, false, 0, [0], 0, .bool, none⟩, ⟨2, false, 0, [1], 0, .bool, none⟩, ⟨2, false, 0, [0, 2], 0, .bool, none⟩, ⟨2, false, 0, [1, 2], 0, .bool, none⟩, ⟨3, false, 1, [], 0, .bool, none⟩, ⟨3, false, 2, [], 0, .bool, none⟩, ⟨3, false, 3, [], 0, .bool, none⟩, ⟨3, false, 4, [], 0, .bool, none⟩]⟩
noncomputable def S.rmchange_L {R : Type} (w0 g0 : Int) (lo0 len0 : Nat) (nw0 : Int) (ov0 : Bool) (r0 : RL) (w1 g1 : Int) (lo1 len1 : Nat) (nw1 : Int) (ov1 : Bool) (r1 : RL) (d : Cf) (k : AVal → List Blk → Option R) : Option R := fnEval tis F44 0 G23 Tryz.f44 [.ptr 0 0 0, .agg (cfA d)] [.var [.ptr 1 0 0, .ptr 3 0 0], .var [.int .i64 w0, .int .i64 g0, .slice 2 2 lo0 len0 none, .int .i64 nw0, .bool ov0], .rows (.pair (.int .i64) (.int .i64)) r0 false, .var [.int .i64 w1, .int .i64 g1, .slice 2 4 lo1 len1 none, .int .i64 nw1, .bool ov1], .rows (.pair (.int .i64) (.int .i64)) r1 false] k
noncomputable def S.rmchange_gk {R : Type} (w0 g0 : Int) (lo0 len0 : Nat) (nw0 : Int) (ov0 : Bool) (r0 : RL) (w1 g1 : Int) (lo1 len1 : Nat) (nw1 : Int) (ov1 : Bool) (r1 : RL) (d : Cf) (k : AVal → List Blk → Option R) : ((Int × Rr × Rr) ⊕ (Rr)) → Option R := (Sum.elim (fun v : Int × Rr × Rr => k (.int .i64 v.1) [(.var [(.ptr 5 (0) 0), (.ptr 7 (0) 0)]), .dead, .dead, .dead, .dead, (.var [(.int .i64 (v.2.1.w)), (.int .i64 (v.2.1.g)), (.slice 2 6 (v.2.1.lo) (v.2.1.len) none), (.int .i64 (v.2.1.nw)), (.bool (v.2.1.ov))]), (.rows (Cd.pair (Cd.int .i64) (Cd.int .i64)) (v.2.1.r) false), (.var [(.int .i64 (v.2.2.w)), (.int .i64 (v.2.2.g)), (.slice 2 8 (v.2.2.lo) (v.2.2.len) none), (.int .i64 (v.2.2.nw)), (.bool (v.2.2.ov))]), (.rows (Cd.pair (Cd.int .i64) (Cd.int .i64)) (v.2.2.r) false)]) (fun v : Rr => k (.int .i64 (0)) [(.var [(.ptr 5 (0) 0), .nilp]), .dead, .dead, .dead, .dead, (.var [(.int .i64 (v.w)), (.int .i64 (v.g)), (.slice 2 6 (v.lo) (v.len) none), (.int .i64 (v.nw)), (.bool (v.ov))]), (.rows (Cd.pair (Cd.int .i64) (Cd.int .i64)) (v.r) false)]))
noncomputable def S.rmchange (w0 g0 : Int) (lo0 len0 : Nat) (nw0 : Int) (ov0 : Bool) (r0 : RL) (w1 g1 : Int) (lo1 len1 : Nat) (nw1 : Int) (ov1 : Bool) (r1 : RL) (d : Cf) : Option ((Int × Rr × Rr) ⊕ (Rr)) :=
  bif !S.rmay d then
   some (.inl (1, (⟨w0, g0, lo0, len0, nw0, ov0, r0⟩ : Rr), (⟨w1, g1, lo1, len1, nw1, ov1, r1⟩ : Rr)))
 else
   bif !decide (d.grain = g0) then
   (Sum.elim (fun o4 : Unit =>
    (Sum.elim (fun o5 : Unit =>
    none) (fun o5 : Int × Int =>
    none) (S.rnewring d.panic d.grain))) (fun o4 : Int × Int =>
    (Sum.elim (fun o5 : Unit =>
    some (.inr ((⟨o4.1, o4.2, 0, 0, -1, S.rmover w0 g0 lo0 len0 nw0 ov0 r0 w1 g1 lo1 len1 nw1 ov1 r1, []⟩ : Rr)))) (fun o5 : Int × Int =>
    some (.inl (0, (⟨o4.1, o4.2, 0, 0, -1, S.rmover w0 g0 lo0 len0 nw0 ov0 r0 w1 g1 lo1 len1 nw1 ov1 r1, []⟩ : Rr), (⟨o5.1, o5.2, 0, 0, -1, false, []⟩ : Rr)))) (S.rnewring d.panic d.grain))) (S.rnewring d.stable d.grain))
 else
   (optK (S.rresize r0 lo0 len0 w0 g0 nw0 ov0 d.stable) fun o4 =>
   (optK (S.rresize r1 lo1 len1 w1 g1 nw1 ov1 d.panic) fun o5 =>
   some (.inl (0, (⟨o4.2.1, o4.2.2.1, o4.2.2.2.1, o4.2.2.2.2.1, o4.2.2.2.2.2.1, o4.2.2.2.2.2.2.1, o4.2.2.2.2.2.2.2⟩ : Rr), (⟨o5.2.1, o5.2.2.1, o5.2.2.2.1, o5.2.2.2.2.1, o5.2.2.2.2.2.1, o5.2.2.2.2.2.2.1, o5.2.2.2.2.2.2.2⟩ : Rr)))))
theorem S.rmchange_v {R : Type} (w0 g0 : Int) (lo0 len0 : Nat) (nw0 : Int) (ov0 : Bool) (r0 : RL) (w1 g1 : Int) (lo1 len1 : Nat) (nw1 : Int) (ov1 : Bool) (r1 : RL) (d : Cf) (k : AVal → List Blk → Option R) : S.rmchange_L w0 g0 lo0 len0 nw0 ov0 r0 w1 g1 lo1 len1 nw1 ov1 r1 d k = oK (S.rmchange_gk w0 g0 lo0 len0 nw0 ov0 r0 w1 g1 lo1 len1 nw1 ov1 r1 d k) (S.rmchange w0 g0 lo0 len0 nw0 ov0 r0 w1 g1 lo1 len1 nw1 ov1 r1 d) :=
  (show S.rmchange_L w0 g0 lo0 len0 nw0 ov0 r0 w1 g1 lo1 len1 nw1 ov1 r1 d k =
  (bif !S.rmay d then
   (S.rmchange_gk w0 g0 lo0 len0 nw0 ov0 r0 w1 g1 lo1 len1 nw1 ov1 r1 d k) (.inl (1, (⟨w0, g0, lo0, len0, nw0, ov0, r0⟩ : Rr), (⟨w1, g1, lo1, len1, nw1, ov1, r1⟩ : Rr)))
 else
   bif !decide (d.grain = g0) then
   (Sum.elim (fun o4 : Unit =>
    (Sum.elim (fun o5 : Unit =>
    none) (fun o5 : Int × Int =>
    none) (S.rnewring d.panic d.grain))) (fun o4 : Int × Int =>
    (Sum.elim (fun o5 : Unit =>
    (S.rmchange_gk w0 g0 lo0 len0 nw0 ov0 r0 w1 g1 lo1 len1 nw1 ov1 r1 d k) (.inr ((⟨o4.1, o4.2, 0, 0, -1, S.rmover w0 g0 lo0 len0 nw0 ov0 r0 w1 g1 lo1 len1 nw1 ov1 r1, []⟩ : Rr)))) (fun o5 : Int × Int =>
    (S.rmchange_gk w0 g0 lo0 len0 nw0 ov0 r0 w1 g1 lo1 len1 nw1 ov1 r1 d k) (.inl (0, (⟨o4.1, o4.2, 0, 0, -1, S.rmover w0 g0 lo0 len0 nw0 ov0 r0 w1 g1 lo1 len1 nw1 ov1 r1, []⟩ : Rr), (⟨o5.1, o5.2, 0, 0, -1, false, []⟩ : Rr)))) (S.rnewring d.panic d.grain))) (S.rnewring d.stable d.grain))
 else
   (optK (S.rresize r0 lo0 len0 w0 g0 nw0 ov0 d.stable) fun o4 =>
   (optK (S.rresize r1 lo1 len1 w1 g1 nw1 ov1 d.panic) fun o5 =>
   (S.rmchange_gk w0 g0 lo0 len0 nw0 ov0 r0 w1 g1 lo1 len1 nw1 ov1 r1 d k) (.inl (0, (⟨o4.2.1, o4.2.2.1, o4.2.2.2.1, o4.2.2.2.2.1, o4.2.2.2.2.2.1, o4.2.2.2.2.2.2.1, o4.2.2.2.2.2.2.2⟩ : Rr), (⟨o5.2.1, o5.2.2.1, o5.2.2.2.1, o5.2.2.2.2.1, o5.2.2.2.2.2.1, o5.2.2.2.2.2.2.1, o5.2.2.2.2.2.2.2⟩ : Rr)))))) from by kernel_rfl).trans (by
      unfold S.rmchange
      refine bif_lift (f := (oK (S.rmchange_gk w0 g0 lo0 len0 nw0 ov0 r0 w1 g1 lo1 len1 nw1 ov1 r1 d k))) ?_ ?_
      · 
        exact rfl
      · 
        refine bif_lift (f := (oK (S.rmchange_gk w0 g0 lo0 len0 nw0 ov0 r0 w1 g1 lo1 len1 nw1 ov1 r1 d k))) ?_ ?_
        · 
          refine sumF_lift (f := (oK (S.rmchange_gk w0 g0 lo0 len0 nw0 ov0 r0 w1 g1 lo1 len1 nw1 ov1 r1 d k))) (fun o4 => ?_) (fun o4 => ?_) _
          · 
            refine sumF_lift (f := (oK (S.rmchange_gk w0 g0 lo0 len0 nw0 ov0 r0 w1 g1 lo1 len1 nw1 ov1 r1 d k))) (fun o5 => ?_) (fun o5 => ?_) _
            · 
              exact rfl
            · 
              exact rfl
          · 
            refine sumF_lift (f := (oK (S.rmchange_gk w0 g0 lo0 len0 nw0 ov0 r0 w1 g1 lo1 len1 nw1 ov1 r1 d k))) (fun o5 => ?_) (fun o5 => ?_) _
            · 
              exact rfl
            · 
              exact rfl
        · 
          refine opt_lift fun o4 => ?_
          refine opt_lift fun o5 => ?_
          exact rfl
      )
noncomputable def S.rmchange_p (w0 g0 : Int) (lo0 len0 : Nat) (nw0 : Int) (ov0 : Bool) (r0 : RL) (w1 g1 : Int) (lo1 len1 : Nat) (nw1 : Int) (ov1 : Bool) (r1 : RL) (d : Cf) : Option (Int × Rr × Rr) :=
  (S.rmchange w0 g0 lo0 len0 nw0 ov0 r0 w1 g1 lo1 len1 nw1 ov1 r1 d).bind (Sum.elim (fun v => some v) (fun _ => none))
noncomputable def H44 : Hnd := fun R args σ k => match args, σ with
  | [.ptr 0 0 0, .agg [.int .i64 target_, .int .i64 util_, .int .i64 stable_, .int .i64 panic_, .int .i64 grain_, .int .i64 threshold_, .int .i64 up_, .int .i64 down_, .int .i64 min_, .int .i64 max_, .int .i64 initial_, .int .i64 grace_, .int .i64 delay_, .int .i64 burst_, .int .i64 limit_, .int .i64 queue_, .int .i64 timeout_, .int .i64 ready_, .int .i64 subset_, .int .i64 sample_]], [.var [.ptr 1 0 0, .ptr 3 0 0], .var [.int .i64 w0, .int .i64 g0, .slice 2 2 lo0 len0 none, .int .i64 nw0, .bool ov0], .rows (.pair (.int .i64) (.int .i64)) r0 false, .var [.int .i64 w1, .int .i64 g1, .slice 2 4 lo1 len1 none, .int .i64 nw1, .bool ov1], .rows (.pair (.int .i64) (.int .i64)) r1 false] => oK (fun v : Int × Rr × Rr => k (.int .i64 v.1) [(.var [(.ptr 5 (0) 0), (.ptr 7 (0) 0)]), .dead, .dead, .dead, .dead, (.var [(.int .i64 (v.2.1.w)), (.int .i64 (v.2.1.g)), (.slice 2 6 (v.2.1.lo) (v.2.1.len) none), (.int .i64 (v.2.1.nw)), (.bool (v.2.1.ov))]), (.rows (Cd.pair (Cd.int .i64) (Cd.int .i64)) (v.2.1.r) false), (.var [(.int .i64 (v.2.2.w)), (.int .i64 (v.2.2.g)), (.slice 2 8 (v.2.2.lo) (v.2.2.len) none), (.int .i64 (v.2.2.nw)), (.bool (v.2.2.ov))]), (.rows (Cd.pair (Cd.int .i64) (Cd.int .i64)) (v.2.2.r) false)]) (S.rmchange_p w0 g0 lo0 len0 nw0 ov0 r0 w1 g1 lo1 len1 nw1 ov1 r1 ⟨target_, util_, stable_, panic_, grain_, threshold_, up_, down_, min_, max_, initial_, grace_, delay_, burst_, limit_, queue_, timeout_, ready_, subset_, sample_⟩)
  | _, _ => none
theorem H44_ok : HndOk Tryz.prog 44 H44 := hnd_ok tis tisOk mixOk G23_ok F44 Tryz.func44 rfl (by
  intro R args σ k r h
  unfold H44 at h
  split at h
  · rename_i target_ util_ stable_ panic_ grain_ threshold_ up_ down_ min_ max_ initial_ grace_ delay_ burst_ limit_ queue_ timeout_ ready_ subset_ sample_ w0 g0 lo0 len0 nw0 ov0 r0 w1 g1 lo1 len1 nw1 ov1 r1; exact ⟨0, (S.rmchange_v w0 g0 lo0 len0 nw0 ov0 r0 w1 g1 lo1 len1 nw1 ov1 r1 ⟨target_, util_, stable_, panic_, grain_, threshold_, up_, down_, min_, max_, initial_, grace_, delay_, burst_, limit_, queue_, timeout_, ready_, subset_, sample_⟩ _).trans (keep_lift (fun a b e => by rcases a with a | a <;> first | (cases e; rfl) | cases e) h)⟩
  · cases h)
noncomputable def G44 : Env := Env.add 44 H44 G23
theorem G44_ok : EnvOk Tryz.prog G44 := envAdd_ok H44_ok G23_ok
end Go.Proofs.YtdgipcjigbagfaaGreat.AB
