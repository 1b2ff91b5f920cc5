/- The document's two windows, as plain functions. -/
import Derived.Test.YtdflpflffccmgaaSrref
namespace Go.Proofs.Ytdflpflffccmgaa.AB
set_option linter.unusedVariables false

/-- the document's ring -/
structure Rr where
  w : Int
  g : Int
  lo : Nat
  len : Nat
  nw : Int
  ov : Bool
  r : RL
/-- the document's delay -/
structure Rd where
  sp : Int
  lo : Nat
  len : Nat
  r : RL

/-! spinnakerref5.NewMetric -/
def F12 : FCfg := ⟨keepAt [(0, [1]), (1, [1, 5]), (2, [2]), (3, [2])], loopAt [], [⟨1, true, 0, [0], 2, (.pair (.int .i64) (.int .i64)), none⟩, ⟨1, true, 0, [1], 2, (.pair (.int .i64) (.int .i64)), none⟩]⟩
theorem S.rmnew_k {R : Type} (c : Cf) (k : AVal → List Blk → Option R) : fnEval tis F12 0 G37 Try.f12 [.agg (cfA c)] [] k =
  (bif !S.rmay c then
   k (.nilp) ([])
 else
   (Sum.elim (fun o3 : Unit =>
    (Sum.elim (fun o4 : Unit =>
    k (.ptr 0 0 0) ([.var [.nilp, .nilp]])) (fun o4 : Int × Int =>
    k (.ptr 0 0 0) ([.var [.nilp, .ptr 1 0 0], .var [.int .i64 o4.1, .int .i64 o4.2, .slice 2 2 0 0 Option.none, .int .i64 (-1), .bool false], .rows (Cd.pair (Cd.int .i64) (Cd.int .i64)) [] false])) (S.rnewring c.panic c.grain))) (fun o3 : Int × Int =>
    (Sum.elim (fun o4 : Unit =>
    k (.ptr 0 0 0) ([.var [.ptr 1 0 0, .nilp], .var [.int .i64 o3.1, .int .i64 o3.2, .slice 2 2 0 0 Option.none, .int .i64 (-1), .bool false], .rows (Cd.pair (Cd.int .i64) (Cd.int .i64)) [] false])) (fun o4 : Int × Int =>
    k (.ptr 0 0 0) ([.var [.ptr 1 0 0, .ptr 3 0 0], .var [.int .i64 o3.1, .int .i64 o3.2, .slice 2 2 0 0 Option.none, .int .i64 (-1), .bool false], .rows (Cd.pair (Cd.int .i64) (Cd.int .i64)) [] false, .var [.int .i64 o4.1, .int .i64 o4.2, .slice 2 4 0 0 Option.none, .int .i64 (-1), .bool false], .rows (Cd.pair (Cd.int .i64) (Cd.int .i64)) [] false])) (S.rnewring c.panic c.grain))) (S.rnewring c.stable c.grain))) := by kernel_rfl
noncomputable def S.rmnew (c : Cf) : (Unit) ⊕ (Unit) ⊕ (Rr) ⊕ (Rr) ⊕ (Rr × Rr) :=
  bif !S.rmay c then
   (.inl ())
 else
   (Sum.elim (fun o3 : Unit =>
    (Sum.elim (fun o4 : Unit =>
    (.inr (.inl ()))) (fun o4 : Int × Int =>
    (.inr (.inr (.inl ((⟨o4.1, o4.2, 0, 0, -1, false, []⟩ : Rr)))))) (S.rnewring c.panic c.grain))) (fun o3 : Int × Int =>
    (Sum.elim (fun o4 : Unit =>
    (.inr (.inr (.inr (.inl ((⟨o3.1, o3.2, 0, 0, -1, false, []⟩ : Rr))))))) (fun o4 : Int × Int =>
    (.inr (.inr (.inr (.inr ((⟨o3.1, o3.2, 0, 0, -1, false, []⟩ : Rr), (⟨o4.1, o4.2, 0, 0, -1, false, []⟩ : Rr))))))) (S.rnewring c.panic c.grain))) (S.rnewring c.stable c.grain))
noncomputable def S.rmnew_gk {R : Type} (c : Cf) (k : AVal → List Blk → Option R) : ((Unit) ⊕ (Unit) ⊕ (Rr) ⊕ (Rr) ⊕ (Rr × Rr)) → Option R := (Sum.elim (fun v : Unit => k .nilp []) (Sum.elim (fun v : Unit => k (.ptr 0 (0) 0) [(.var [.nilp, .nilp])]) (Sum.elim (fun v : Rr => k (.ptr 0 (0) 0) [(.var [.nilp, (.ptr 1 (0) 0)]), (.var [(.int .i64 (v.w)), (.int .i64 (v.g)), (.slice 2 2 (v.lo) (v.len) none), (.int .i64 (v.nw)), (.bool (v.ov))]), (.rows (Cd.pair (Cd.int .i64) (Cd.int .i64)) (v.r) false)]) (Sum.elim (fun v : Rr => k (.ptr 0 (0) 0) [(.var [(.ptr 1 (0) 0), .nilp]), (.var [(.int .i64 (v.w)), (.int .i64 (v.g)), (.slice 2 2 (v.lo) (v.len) none), (.int .i64 (v.nw)), (.bool (v.ov))]), (.rows (Cd.pair (Cd.int .i64) (Cd.int .i64)) (v.r) false)]) (fun v : Rr × Rr => k (.ptr 0 (0) 0) [(.var [(.ptr 1 (0) 0), (.ptr 3 (0) 0)]), (.var [(.int .i64 (v.1.w)), (.int .i64 (v.1.g)), (.slice 2 2 (v.1.lo) (v.1.len) none), (.int .i64 (v.1.nw)), (.bool (v.1.ov))]), (.rows (Cd.pair (Cd.int .i64) (Cd.int .i64)) (v.1.r) false), (.var [(.int .i64 (v.2.w)), (.int .i64 (v.2.g)), (.slice 2 4 (v.2.lo) (v.2.len) none), (.int .i64 (v.2.nw)), (.bool (v.2.ov))]), (.rows (Cd.pair (Cd.int .i64) (Cd.int .i64)) (v.2.r) false)])))))
theorem S.rmnew_v {R : Type} (c : Cf) (k : AVal → List Blk → Option R) : fnEval tis F12 0 G37 Try.f12 [.agg (cfA c)] [] k = (Sum.elim (fun v : Unit => k .nilp []) (Sum.elim (fun v : Unit => k (.ptr 0 (0) 0) [(.var [.nilp, .nilp])]) (Sum.elim (fun v : Rr => k (.ptr 0 (0) 0) [(.var [.nilp, (.ptr 1 (0) 0)]), (.var [(.int .i64 (v.w)), (.int .i64 (v.g)), (.slice 2 2 (v.lo) (v.len) none), (.int .i64 (v.nw)), (.bool (v.ov))]), (.rows (Cd.pair (Cd.int .i64) (Cd.int .i64)) (v.r) false)]) (Sum.elim (fun v : Rr => k (.ptr 0 (0) 0) [(.var [(.ptr 1 (0) 0), .nilp]), (.var [(.int .i64 (v.w)), (.int .i64 (v.g)), (.slice 2 2 (v.lo) (v.len) none), (.int .i64 (v.nw)), (.bool (v.ov))]), (.rows (Cd.pair (Cd.int .i64) (Cd.int .i64)) (v.r) false)]) (fun v : Rr × Rr => k (.ptr 0 (0) 0) [(.var [(.ptr 1 (0) 0), (.ptr 3 (0) 0)]), (.var [(.int .i64 (v.1.w)), (.int .i64 (v.1.g)), (.slice 2 2 (v.1.lo) (v.1.len) none), (.int .i64 (v.1.nw)), (.bool (v.1.ov))]), (.rows (Cd.pair (Cd.int .i64) (Cd.int .i64)) (v.1.r) false), (.var [(.int .i64 (v.2.w)), (.int .i64 (v.2.g)), (.slice 2 4 (v.2.lo) (v.2.len) none), (.int .i64 (v.2.nw)), (.bool (v.2.ov))]), (.rows (Cd.pair (Cd.int .i64) (Cd.int .i64)) (v.2.r) false)]))))) (S.rmnew c) :=
  (S.rmnew_k c k).trans (by
      unfold S.rmnew
      refine bif_lift (f := (S.rmnew_gk c k)) ?_ ?_
      · 
        exact rfl
      · 
        refine sumF_lift (f := (S.rmnew_gk c k)) (fun o3 => ?_) (fun o3 => ?_) _
        · 
          refine sumF_lift (f := (S.rmnew_gk c k)) (fun o4 => ?_) (fun o4 => ?_) _
          · 
            exact rfl
          · 
            exact rfl
        · 
          refine sumF_lift (f := (S.rmnew_gk c k)) (fun o4 => ?_) (fun o4 => ?_) _
          · 
            exact rfl
          · 
            exact rfl
      )
noncomputable def S.rmnew_p (c : Cf) : Option ((Unit) ⊕ (Rr × Rr)) :=
  (some (S.rmnew c)).bind (Sum.elim (fun v => some (.inl v)) (Sum.elim (fun _ => none) (Sum.elim (fun _ => none) (Sum.elim (fun _ => none) (fun v => some (.inr v))))))
noncomputable def H12 : Hnd := fun R args σ k => match args, σ with
  | [.agg [.int .i64 target_, .int .i64 util_, .int .i64 stable_, .int .i64 panic_, .int .i64 grain_, .int .i64 threshold_, .int .i64 up_, .int .i64 down_, .int .i64 min_, .int .i64 max_, .int .i64 initial_, .int .i64 grace_, .int .i64 delay_, .int .i64 burst_, .int .i64 limit_, .int .i64 queue_, .int .i64 timeout_, .int .i64 ready_, .int .i64 subset_, .int .i64 sample_]], [] => oK (Sum.elim (fun v : Unit => k .nilp []) (fun v : Rr × Rr => k (.ptr 0 (0) 0) [(.var [(.ptr 1 (0) 0), (.ptr 3 (0) 0)]), (.var [(.int .i64 (v.1.w)), (.int .i64 (v.1.g)), (.slice 2 2 (v.1.lo) (v.1.len) none), (.int .i64 (v.1.nw)), (.bool (v.1.ov))]), (.rows (Cd.pair (Cd.int .i64) (Cd.int .i64)) (v.1.r) false), (.var [(.int .i64 (v.2.w)), (.int .i64 (v.2.g)), (.slice 2 4 (v.2.lo) (v.2.len) none), (.int .i64 (v.2.nw)), (.bool (v.2.ov))]), (.rows (Cd.pair (Cd.int .i64) (Cd.int .i64)) (v.2.r) false)])) (S.rmnew_p ⟨target_, util_, stable_, panic_, grain_, threshold_, up_, down_, min_, max_, initial_, grace_, delay_, burst_, limit_, queue_, timeout_, ready_, subset_, sample_⟩)
  | _, _ => none
theorem H12_ok : HndOk Try.prog 12 H12 := hnd_ok tis tisOk mixOk G37_ok F12 Try.func12 rfl (by
  intro R args σ k r h
  unfold H12 at h
  split at h
  · rename_i target_ util_ stable_ panic_ grain_ threshold_ up_ down_ min_ max_ initial_ grace_ delay_ burst_ limit_ queue_ timeout_ ready_ subset_ sample_; exact ⟨0, (S.rmnew_v ⟨target_, util_, stable_, panic_, grain_, threshold_, up_, down_, min_, max_, initial_, grace_, delay_, burst_, limit_, queue_, timeout_, ready_, subset_, sample_⟩ _).trans (keep_lift (x := (some (S.rmnew ⟨target_, util_, stable_, panic_, grain_, threshold_, up_, down_, min_, max_, initial_, grace_, delay_, burst_, limit_, queue_, timeout_, ready_, subset_, sample_⟩))) (fun a b e => by rcases a with a | a | a | a | a <;> first | (cases e; rfl) | cases e) h)⟩
  · cases h)
noncomputable def G12 : Env := Env.add 12 H12 G37
theorem G12_ok : EnvOk Try.prog G12 := envAdd_ok H12_ok G37_ok

/-! (*spinnakerref5.Metric).Put -/
def F15 : FCfg := ⟨keepAt [(0, [0, 1, 2]), (1, [0, 1, 2]), (2, [6])], loopAt [], []⟩
theorem S.rmput_k {R : Type} (w0 g0 : Int) (lo0 len0 : Nat) (nw0 : Int) (ov0 : Bool) (r0 : RL) (w1 g1 : Int) (lo1 len1 : Nat) (nw1 : Int) (ov1 : Bool) (r1 : RL) (t v : Int) (k : AVal → List Blk → Option R) : fnEval tis F15 0 G12 Try.f15 [.ptr 0 0 0, .int .i64 t, .int .i64 v] [.var [.ptr 1 0 0, .ptr 3 0 0], .var [.int .i64 w0, .int .i64 g0, .slice 2 2 lo0 len0 none, .int .i64 nw0, .bool ov0], .rows (.pair (.int .i64) (.int .i64)) r0 false, .var [.int .i64 w1, .int .i64 g1, .slice 2 4 lo1 len1 none, .int .i64 nw1, .bool ov1], .rows (.pair (.int .i64) (.int .i64)) r1 false] k =
  ((optK (S.rput r0 lo0 len0 w0 g0 nw0 ov0 t v) fun o2 =>
   (optK (S.rput r1 lo1 len1 w1 g1 nw1 ov1 t v) fun o3 =>
   k (.int .i64 o3.1) ([.var [.ptr 1 0 0, .ptr 3 0 0], .var [.int .i64 o2.2.1, .int .i64 o2.2.2.1, .slice 2 5 o2.2.2.2.1 o2.2.2.2.2.1 Option.none, .int .i64 o2.2.2.2.2.2.1, .bool o2.2.2.2.2.2.2.1], .dead, .var [.int .i64 o3.2.1, .int .i64 o3.2.2.1, .slice 2 6 o3.2.2.2.1 o3.2.2.2.2.1 Option.none, .int .i64 o3.2.2.2.2.2.1, .bool o3.2.2.2.2.2.2.1], .dead, .rows (Cd.pair (Cd.int .i64) (Cd.int .i64)) o2.2.2.2.2.2.2.2 false, .rows (Cd.pair (Cd.int .i64) (Cd.int .i64)) o3.2.2.2.2.2.2.2 false])))) := by kernel_rfl
noncomputable def S.rmput (w0 g0 : Int) (lo0 len0 : Nat) (nw0 : Int) (ov0 : Bool) (r0 : RL) (w1 g1 : Int) (lo1 len1 : Nat) (nw1 : Int) (ov1 : Bool) (r1 : RL) (t v : Int) : Option (Int × Rr × Rr) :=
  (optK (S.rput r0 lo0 len0 w0 g0 nw0 ov0 t v) fun o2 =>
   (optK (S.rput r1 lo1 len1 w1 g1 nw1 ov1 t v) fun o3 =>
   some (o3.1, (⟨o2.2.1, o2.2.2.1, o2.2.2.2.1, o2.2.2.2.2.1, o2.2.2.2.2.2.1, o2.2.2.2.2.2.2.1, o2.2.2.2.2.2.2.2⟩ : Rr), (⟨o3.2.1, o3.2.2.1, o3.2.2.2.1, o3.2.2.2.2.1, o3.2.2.2.2.2.1, o3.2.2.2.2.2.2.1, o3.2.2.2.2.2.2.2⟩ : Rr))))
noncomputable def S.rmput_gk {R : Type} (w0 g0 : Int) (lo0 len0 : Nat) (nw0 : Int) (ov0 : Bool) (r0 : RL) (w1 g1 : Int) (lo1 len1 : Nat) (nw1 : Int) (ov1 : Bool) (r1 : RL) (t v : Int) (k : AVal → List Blk → Option R) : (Int × Rr × Rr) → Option R := (fun v : Int × Rr × Rr => k (.int .i64 v.1) [(.var [(.ptr 1 (0) 0), (.ptr 3 (0) 0)]), (.var [(.int .i64 (v.2.1.w)), (.int .i64 (v.2.1.g)), (.slice 2 5 (v.2.1.lo) (v.2.1.len) none), (.int .i64 (v.2.1.nw)), (.bool (v.2.1.ov))]), .dead, (.var [(.int .i64 (v.2.2.w)), (.int .i64 (v.2.2.g)), (.slice 2 6 (v.2.2.lo) (v.2.2.len) none), (.int .i64 (v.2.2.nw)), (.bool (v.2.2.ov))]), .dead, (.rows (Cd.pair (Cd.int .i64) (Cd.int .i64)) (v.2.1.r) false), (.rows (Cd.pair (Cd.int .i64) (Cd.int .i64)) (v.2.2.r) false)])
theorem S.rmput_v {R : Type} (w0 g0 : Int) (lo0 len0 : Nat) (nw0 : Int) (ov0 : Bool) (r0 : RL) (w1 g1 : Int) (lo1 len1 : Nat) (nw1 : Int) (ov1 : Bool) (r1 : RL) (t v : Int) (k : AVal → List Blk → Option R) : fnEval tis F15 0 G12 Try.f15 [.ptr 0 0 0, .int .i64 t, .int .i64 v] [.var [.ptr 1 0 0, .ptr 3 0 0], .var [.int .i64 w0, .int .i64 g0, .slice 2 2 lo0 len0 none, .int .i64 nw0, .bool ov0], .rows (.pair (.int .i64) (.int .i64)) r0 false, .var [.int .i64 w1, .int .i64 g1, .slice 2 4 lo1 len1 none, .int .i64 nw1, .bool ov1], .rows (.pair (.int .i64) (.int .i64)) r1 false] k = oK (fun v : Int × Rr × Rr => k (.int .i64 v.1) [(.var [(.ptr 1 (0) 0), (.ptr 3 (0) 0)]), (.var [(.int .i64 (v.2.1.w)), (.int .i64 (v.2.1.g)), (.slice 2 5 (v.2.1.lo) (v.2.1.len) none), (.int .i64 (v.2.1.nw)), (.bool (v.2.1.ov))]), .dead, (.var [(.int .i64 (v.2.2.w)), (.int .i64 (v.2.2.g)), (.slice 2 6 (v.2.2.lo) (v.2.2.len) none), (.int .i64 (v.2.2.nw)), (.bool (v.2.2.ov))]), .dead, (.rows (Cd.pair (Cd.int .i64) (Cd.int .i64)) (v.2.1.r) false), (.rows (Cd.pair (Cd.int .i64) (Cd.int .i64)) (v.2.2.r) false)]) (S.rmput w0 g0 lo0 len0 nw0 ov0 r0 w1 g1 lo1 len1 nw1 ov1 r1 t v) :=
  (S.rmput_k w0 g0 lo0 len0 nw0 ov0 r0 w1 g1 lo1 len1 nw1 ov1 r1 t v k).trans (opt_lift fun o2 => (opt_lift fun o3 => rfl))
noncomputable def H15 : Hnd := fun R args σ k => match args, σ with
  | [.ptr 0 0 0, .int .i64 t, .int .i64 v], [.var [.ptr 1 0 0, .ptr 3 0 0], .var [.int .i64 w0, .int .i64 g0, .slice 2 2 lo0 len0 none, .int .i64 nw0, .bool ov0], .rows (.pair (.int .i64) (.int .i64)) r0 false, .var [.int .i64 w1, .int .i64 g1, .slice 2 4 lo1 len1 none, .int .i64 nw1, .bool ov1], .rows (.pair (.int .i64) (.int .i64)) r1 false] => oK (fun v : Int × Rr × Rr => k (.int .i64 v.1) [(.var [(.ptr 1 (0) 0), (.ptr 3 (0) 0)]), (.var [(.int .i64 (v.2.1.w)), (.int .i64 (v.2.1.g)), (.slice 2 5 (v.2.1.lo) (v.2.1.len) none), (.int .i64 (v.2.1.nw)), (.bool (v.2.1.ov))]), .dead, (.var [(.int .i64 (v.2.2.w)), (.int .i64 (v.2.2.g)), (.slice 2 6 (v.2.2.lo) (v.2.2.len) none), (.int .i64 (v.2.2.nw)), (.bool (v.2.2.ov))]), .dead, (.rows (Cd.pair (Cd.int .i64) (Cd.int .i64)) (v.2.1.r) false), (.rows (Cd.pair (Cd.int .i64) (Cd.int .i64)) (v.2.2.r) false)]) (S.rmput w0 g0 lo0 len0 nw0 ov0 r0 w1 g1 lo1 len1 nw1 ov1 r1 t v)
  | _, _ => none
theorem H15_ok : HndOk Try.prog 15 H15 := hnd_ok tis tisOk mixOk G12_ok F15 Try.func15 rfl (by
  intro R args σ k r h
  unfold H15 at h
  split at h
  · rename_i t v w0 g0 lo0 len0 nw0 ov0 r0 w1 g1 lo1 len1 nw1 ov1 r1; exact ⟨0, (S.rmput_v w0 g0 lo0 len0 nw0 ov0 r0 w1 g1 lo1 len1 nw1 ov1 r1 t v _).trans h⟩
  · cases h)
noncomputable def G15 : Env := Env.add 15 H15 G12
theorem G15_ok : EnvOk Try.prog G15 := envAdd_ok H15_ok G12_ok

/-! (*spinnakerref5.Metric).Over -/
def F21 : FCfg := ⟨keepAt [(0, [0]), (1, [2])], loopAt [], []⟩
theorem S.rmover_k {R : Type} (w0 g0 : Int) (lo0 len0 : Nat) (nw0 : Int) (ov0 : Bool) (r0 : RL) (w1 g1 : Int) (lo1 len1 : Nat) (nw1 : Int) (ov1 : Bool) (r1 : RL) (k : AVal → List Blk → Option R) : fnEval tis F21 0 G15 Try.f21 [.ptr 0 0 0] [.var [.ptr 1 0 0, .ptr 3 0 0], .var [.int .i64 w0, .int .i64 g0, .slice 2 2 lo0 len0 none, .int .i64 nw0, .bool ov0], .rows (.pair (.int .i64) (.int .i64)) r0 false, .var [.int .i64 w1, .int .i64 g1, .slice 2 4 lo1 len1 none, .int .i64 nw1, .bool ov1], .rows (.pair (.int .i64) (.int .i64)) r1 false] k =
  (bif ov0 then
   k (.bool true) ([.var [.ptr 1 0 0, .ptr 3 0 0], .var [.int .i64 w0, .int .i64 g0, .slice 2 2 lo0 len0 Option.none, .int .i64 nw0, .bool ov0], .rows (Cd.pair (Cd.int .i64) (Cd.int .i64)) r0 false, .var [.int .i64 w1, .int .i64 g1, .slice 2 4 lo1 len1 Option.none, .int .i64 nw1, .bool ov1], .rows (Cd.pair (Cd.int .i64) (Cd.int .i64)) r1 false])
 else
   k (.bool ov1) ([.var [.ptr 1 0 0, .ptr 3 0 0], .var [.int .i64 w0, .int .i64 g0, .slice 2 2 lo0 len0 Option.none, .int .i64 nw0, .bool ov0], .rows (Cd.pair (Cd.int .i64) (Cd.int .i64)) r0 false, .var [.int .i64 w1, .int .i64 g1, .slice 2 4 lo1 len1 Option.none, .int .i64 nw1, .bool ov1], .rows (Cd.pair (Cd.int .i64) (Cd.int .i64)) r1 false])) := by kernel_rfl
noncomputable def S.rmover (w0 g0 : Int) (lo0 len0 : Nat) (nw0 : Int) (ov0 : Bool) (r0 : RL) (w1 g1 : Int) (lo1 len1 : Nat) (nw1 : Int) (ov1 : Bool) (r1 : RL) : Bool :=
  bif ov0 then
   (true)
 else
   (ov1)
noncomputable def S.rmover_gk {R : Type} (w0 g0 : Int) (lo0 len0 : Nat) (nw0 : Int) (ov0 : Bool) (r0 : RL) (w1 g1 : Int) (lo1 len1 : Nat) (nw1 : Int) (ov1 : Bool) (r1 : RL) (k : AVal → List Blk → Option R) : (Bool) → Option R := (fun v : Bool => k (.bool v) [.var [.ptr 1 0 0, .ptr 3 0 0], .var [.int .i64 w0, .int .i64 g0, .slice 2 2 lo0 len0 none, .int .i64 nw0, .bool ov0], .rows (.pair (.int .i64) (.int .i64)) r0 false, .var [.int .i64 w1, .int .i64 g1, .slice 2 4 lo1 len1 none, .int .i64 nw1, .bool ov1], .rows (.pair (.int .i64) (.int .i64)) r1 false])
theorem S.rmover_v {R : Type} (w0 g0 : Int) (lo0 len0 : Nat) (nw0 : Int) (ov0 : Bool) (r0 : RL) (w1 g1 : Int) (lo1 len1 : Nat) (nw1 : Int) (ov1 : Bool) (r1 : RL) (k : AVal → List Blk → Option R) : fnEval tis F21 0 G15 Try.f21 [.ptr 0 0 0] [.var [.ptr 1 0 0, .ptr 3 0 0], .var [.int .i64 w0, .int .i64 g0, .slice 2 2 lo0 len0 none, .int .i64 nw0, .bool ov0], .rows (.pair (.int .i64) (.int .i64)) r0 false, .var [.int .i64 w1, .int .i64 g1, .slice 2 4 lo1 len1 none, .int .i64 nw1, .bool ov1], .rows (.pair (.int .i64) (.int .i64)) r1 false] k = k (.bool (S.rmover w0 g0 lo0 len0 nw0 ov0 r0 w1 g1 lo1 len1 nw1 ov1 r1)) [.var [.ptr 1 0 0, .ptr 3 0 0], .var [.int .i64 w0, .int .i64 g0, .slice 2 2 lo0 len0 none, .int .i64 nw0, .bool ov0], .rows (.pair (.int .i64) (.int .i64)) r0 false, .var [.int .i64 w1, .int .i64 g1, .slice 2 4 lo1 len1 none, .int .i64 nw1, .bool ov1], .rows (.pair (.int .i64) (.int .i64)) r1 false] :=
  (S.rmover_k w0 g0 lo0 len0 nw0 ov0 r0 w1 g1 lo1 len1 nw1 ov1 r1 k).trans (bif_lift (f := (S.rmover_gk w0 g0 lo0 len0 nw0 ov0 r0 w1 g1 lo1 len1 nw1 ov1 r1 k)) rfl rfl)
noncomputable def H21 : Hnd := fun R args σ k => match args, σ with
  | [.ptr 0 0 0], [.var [.ptr 1 0 0, .ptr 3 0 0], .var [.int .i64 w0, .int .i64 g0, .slice 2 2 lo0 len0 none, .int .i64 nw0, .bool ov0], .rows (.pair (.int .i64) (.int .i64)) r0 false, .var [.int .i64 w1, .int .i64 g1, .slice 2 4 lo1 len1 none, .int .i64 nw1, .bool ov1], .rows (.pair (.int .i64) (.int .i64)) r1 false] => k (.bool (S.rmover w0 g0 lo0 len0 nw0 ov0 r0 w1 g1 lo1 len1 nw1 ov1 r1)) []
  | _, _ => none
theorem H21_ok : HndOk Try.prog 21 H21 := hnd_ok_pure tis tisOk mixOk G15_ok F21 Try.func21 rfl (by
  intro R args σ k r h
  unfold H21 at h
  split at h
  · rename_i w0 g0 lo0 len0 nw0 ov0 r0 w1 g1 lo1 len1 nw1 ov1 r1; exact ⟨0, (S.rmover_v w0 g0 lo0 len0 nw0 ov0 r0 w1 g1 lo1 len1 nw1 ov1 r1 _).trans ((if_pos rfl).trans h)⟩
  · cases h)
noncomputable def G21 : Env := Env.add 21 H21 G15
theorem G21_ok : EnvOk Try.prog G21 := envAdd_ok H21_ok G15_ok

/-! (*spinnakerref5.Metric).Change -/
def F17 : FCfg := ⟨keepAt [(0, [0, 3]), (1, [0, 3, 8]), (2, [4]), (3, [0, 3, 18]), (4, [0, 3, 5]), (5, [0, 5]), (6, []), (7, [4]), (8, [0, 3]), (9, []), (10, [4])], loopAt [], [⟨1, false, 0, [0], 2, (.pair (.int .i64) (.int .i64)), none⟩, ⟨1, false, 0, [1], 2, (.pair (.int .i64) (.int .i64)), none⟩, ⟨2, false, 0, [0], 0, .bool, none⟩, ⟨2, false, 0, [1], 0, .bool, none⟩, ⟨2, false, 0, [0, 2], 0, .bool, none⟩, ⟨2, false, 0, [1, 2], 0, .bool, none⟩, ⟨3, false, 1, [], 0, .bool, none⟩, ⟨3, false, 2, [], 0, .bool, none⟩, ⟨3, false, 3, [], 0, .bool, none⟩, ⟨3, false, 4, [], 0, .bool, none⟩]⟩
theorem S.rmchange_k {R : Type} (w0 g0 : Int) (lo0 len0 : Nat) (nw0 : Int) (ov0 : Bool) (r0 : RL) (w1 g1 : Int) (lo1 len1 : Nat) (nw1 : Int) (ov1 : Bool) (r1 : RL) (d : Cf) (k : AVal → List Blk → Option R) : fnEval tis F17 0 G21 Try.f17 [.ptr 0 0 0, .agg (cfA d)] [.var [.ptr 1 0 0, .ptr 3 0 0], .var [.int .i64 w0, .int .i64 g0, .slice 2 2 lo0 len0 none, .int .i64 nw0, .bool ov0], .rows (.pair (.int .i64) (.int .i64)) r0 false, .var [.int .i64 w1, .int .i64 g1, .slice 2 4 lo1 len1 none, .int .i64 nw1, .bool ov1], .rows (.pair (.int .i64) (.int .i64)) r1 false] k =
  (bif !S.rmay d then
   k (.int .i64 1) ([.var [.ptr 5 0 0, .ptr 7 0 0], .dead, .dead, .dead, .dead, .var [.int .i64 w0, .int .i64 g0, .slice 2 6 lo0 len0 Option.none, .int .i64 nw0, .bool ov0], .rows (Cd.pair (Cd.int .i64) (Cd.int .i64)) r0 false, .var [.int .i64 w1, .int .i64 g1, .slice 2 8 lo1 len1 Option.none, .int .i64 nw1, .bool ov1], .rows (Cd.pair (Cd.int .i64) (Cd.int .i64)) r1 false])
 else
   bif !decide (d.grain = g0) then
   (Sum.elim (fun o4 : Unit =>
    (Sum.elim (fun o5 : Unit =>
    none) (fun o5 : Int × Int =>
    none) (S.rnewring d.panic d.grain))) (fun o4 : Int × Int =>
    (Sum.elim (fun o5 : Unit =>
    k (.int .i64 0) ([.var [.ptr 5 0 0, .nilp], .dead, .dead, .dead, .dead, .var [.int .i64 o4.1, .int .i64 o4.2, .slice 2 6 0 0 Option.none, .int .i64 (-1), .bool (S.rmover w0 g0 lo0 len0 nw0 ov0 r0 w1 g1 lo1 len1 nw1 ov1 r1)], .rows (Cd.pair (Cd.int .i64) (Cd.int .i64)) [] false])) (fun o5 : Int × Int =>
    k (.int .i64 0) ([.var [.ptr 5 0 0, .ptr 7 0 0], .dead, .dead, .dead, .dead, .var [.int .i64 o4.1, .int .i64 o4.2, .slice 2 6 0 0 Option.none, .int .i64 (-1), .bool (S.rmover w0 g0 lo0 len0 nw0 ov0 r0 w1 g1 lo1 len1 nw1 ov1 r1)], .rows (Cd.pair (Cd.int .i64) (Cd.int .i64)) [] false, .var [.int .i64 o5.1, .int .i64 o5.2, .slice 2 8 0 0 Option.none, .int .i64 (-1), .bool false], .rows (Cd.pair (Cd.int .i64) (Cd.int .i64)) [] false])) (S.rnewring d.panic d.grain))) (S.rnewring d.stable d.grain))
 else
   (optK (S.rresize r0 lo0 len0 w0 g0 nw0 ov0 d.stable) fun o4 =>
   (optK (S.rresize r1 lo1 len1 w1 g1 nw1 ov1 d.panic) fun o5 =>
   k (.int .i64 0) ([.var [.ptr 5 0 0, .ptr 7 0 0], .dead, .dead, .dead, .dead, .var [.int .i64 o4.2.1, .int .i64 o4.2.2.1, .slice 2 6 o4.2.2.2.1 o4.2.2.2.2.1 Option.none, .int .i64 o4.2.2.2.2.2.1, .bool o4.2.2.2.2.2.2.1], .rows (Cd.pair (Cd.int .i64) (Cd.int .i64)) o4.2.2.2.2.2.2.2 false, .var [.int .i64 o5.2.1, .int .i64 o5.2.2.1, .slice 2 8 o5.2.2.2.1 o5.2.2.2.2.1 Option.none, .int .i64 o5.2.2.2.2.2.1, .bool o5.2.2.2.2.2.2.1], .rows (Cd.pair (Cd.int .i64) (Cd.int .i64)) o5.2.2.2.2.2.2.2 false])))) := by kernel_rfl
noncomputable def S.rmchange (w0 g0 : Int) (lo0 len0 : Nat) (nw0 : Int) (ov0 : Bool) (r0 : RL) (w1 g1 : Int) (lo1 len1 : Nat) (nw1 : Int) (ov1 : Bool) (r1 : RL) (d : Cf) : Option ((Int × Rr × Rr) ⊕ (Rr)) :=
  bif !S.rmay d then
   some (.inl (1, (⟨w0, g0, lo0, len0, nw0, ov0, r0⟩ : Rr), (⟨w1, g1, lo1, len1, nw1, ov1, r1⟩ : Rr)))
 else
   bif !decide (d.grain = g0) then
   (Sum.elim (fun o4 : Unit =>
    (Sum.elim (fun o5 : Unit =>
    none) (fun o5 : Int × Int =>
    none) (S.rnewring d.panic d.grain))) (fun o4 : Int × Int =>
    (Sum.elim (fun o5 : Unit =>
    some (.inr ((⟨o4.1, o4.2, 0, 0, -1, S.rmover w0 g0 lo0 len0 nw0 ov0 r0 w1 g1 lo1 len1 nw1 ov1 r1, []⟩ : Rr)))) (fun o5 : Int × Int =>
    some (.inl (0, (⟨o4.1, o4.2, 0, 0, -1, S.rmover w0 g0 lo0 len0 nw0 ov0 r0 w1 g1 lo1 len1 nw1 ov1 r1, []⟩ : Rr), (⟨o5.1, o5.2, 0, 0, -1, false, []⟩ : Rr)))) (S.rnewring d.panic d.grain))) (S.rnewring d.stable d.grain))
 else
   (optK (S.rresize r0 lo0 len0 w0 g0 nw0 ov0 d.stable) fun o4 =>
   (optK (S.rresize r1 lo1 len1 w1 g1 nw1 ov1 d.panic) fun o5 =>
   some (.inl (0, (⟨o4.2.1, o4.2.2.1, o4.2.2.2.1, o4.2.2.2.2.1, o4.2.2.2.2.2.1, o4.2.2.2.2.2.2.1, o4.2.2.2.2.2.2.2⟩ : Rr), (⟨o5.2.1, o5.2.2.1, o5.2.2.2.1, o5.2.2.2.2.1, o5.2.2.2.2.2.1, o5.2.2.2.2.2.2.1, o5.2.2.2.2.2.2.2⟩ : Rr)))))
noncomputable def S.rmchange_gk {R : Type} (w0 g0 : Int) (lo0 len0 : Nat) (nw0 : Int) (ov0 : Bool) (r0 : RL) (w1 g1 : Int) (lo1 len1 : Nat) (nw1 : Int) (ov1 : Bool) (r1 : RL) (d : Cf) (k : AVal → List Blk → Option R) : ((Int × Rr × Rr) ⊕ (Rr)) → Option R := (Sum.elim (fun v : Int × Rr × Rr => k (.int .i64 v.1) [(.var [(.ptr 5 (0) 0), (.ptr 7 (0) 0)]), .dead, .dead, .dead, .dead, (.var [(.int .i64 (v.2.1.w)), (.int .i64 (v.2.1.g)), (.slice 2 6 (v.2.1.lo) (v.2.1.len) none), (.int .i64 (v.2.1.nw)), (.bool (v.2.1.ov))]), (.rows (Cd.pair (Cd.int .i64) (Cd.int .i64)) (v.2.1.r) false), (.var [(.int .i64 (v.2.2.w)), (.int .i64 (v.2.2.g)), (.slice 2 8 (v.2.2.lo) (v.2.2.len) none), (.int .i64 (v.2.2.nw)), (.bool (v.2.2.ov))]), (.rows (Cd.pair (Cd.int .i64) (Cd.int .i64)) (v.2.2.r) false)]) (fun v : Rr => k (.int .i64 (0)) [(.var [(.ptr 5 (0) 0), .nilp]), .dead, .dead, .dead, .dead, (.var [(.int .i64 (v.w)), (.int .i64 (v.g)), (.slice 2 6 (v.lo) (v.len) none), (.int .i64 (v.nw)), (.bool (v.ov))]), (.rows (Cd.pair (Cd.int .i64) (Cd.int .i64)) (v.r) false)]))
theorem S.rmchange_v {R : Type} (w0 g0 : Int) (lo0 len0 : Nat) (nw0 : Int) (ov0 : Bool) (r0 : RL) (w1 g1 : Int) (lo1 len1 : Nat) (nw1 : Int) (ov1 : Bool) (r1 : RL) (d : Cf) (k : AVal → List Blk → Option R) : fnEval tis F17 0 G21 Try.f17 [.ptr 0 0 0, .agg (cfA d)] [.var [.ptr 1 0 0, .ptr 3 0 0], .var [.int .i64 w0, .int .i64 g0, .slice 2 2 lo0 len0 none, .int .i64 nw0, .bool ov0], .rows (.pair (.int .i64) (.int .i64)) r0 false, .var [.int .i64 w1, .int .i64 g1, .slice 2 4 lo1 len1 none, .int .i64 nw1, .bool ov1], .rows (.pair (.int .i64) (.int .i64)) r1 false] k = oK (Sum.elim (fun v : Int × Rr × Rr => k (.int .i64 v.1) [(.var [(.ptr 5 (0) 0), (.ptr 7 (0) 0)]), .dead, .dead, .dead, .dead, (.var [(.int .i64 (v.2.1.w)), (.int .i64 (v.2.1.g)), (.slice 2 6 (v.2.1.lo) (v.2.1.len) none), (.int .i64 (v.2.1.nw)), (.bool (v.2.1.ov))]), (.rows (Cd.pair (Cd.int .i64) (Cd.int .i64)) (v.2.1.r) false), (.var [(.int .i64 (v.2.2.w)), (.int .i64 (v.2.2.g)), (.slice 2 8 (v.2.2.lo) (v.2.2.len) none), (.int .i64 (v.2.2.nw)), (.bool (v.2.2.ov))]), (.rows (Cd.pair (Cd.int .i64) (Cd.int .i64)) (v.2.2.r) false)]) (fun v : Rr => k (.int .i64 (0)) [(.var [(.ptr 5 (0) 0), .nilp]), .dead, .dead, .dead, .dead, (.var [(.int .i64 (v.w)), (.int .i64 (v.g)), (.slice 2 6 (v.lo) (v.len) none), (.int .i64 (v.nw)), (.bool (v.ov))]), (.rows (Cd.pair (Cd.int .i64) (Cd.int .i64)) (v.r) false)])) (S.rmchange w0 g0 lo0 len0 nw0 ov0 r0 w1 g1 lo1 len1 nw1 ov1 r1 d) :=
  (S.rmchange_k w0 g0 lo0 len0 nw0 ov0 r0 w1 g1 lo1 len1 nw1 ov1 r1 d k).trans (by
      unfold S.rmchange
      refine bif_lift (f := (oK (S.rmchange_gk w0 g0 lo0 len0 nw0 ov0 r0 w1 g1 lo1 len1 nw1 ov1 r1 d k))) ?_ ?_
      · 
        exact rfl
      · 
        refine bif_lift (f := (oK (S.rmchange_gk w0 g0 lo0 len0 nw0 ov0 r0 w1 g1 lo1 len1 nw1 ov1 r1 d k))) ?_ ?_
        · 
          refine sumF_lift (f := (oK (S.rmchange_gk w0 g0 lo0 len0 nw0 ov0 r0 w1 g1 lo1 len1 nw1 ov1 r1 d k))) (fun o4 => ?_) (fun o4 => ?_) _
          · 
            refine sumF_lift (f := (oK (S.rmchange_gk w0 g0 lo0 len0 nw0 ov0 r0 w1 g1 lo1 len1 nw1 ov1 r1 d k))) (fun o5 => ?_) (fun o5 => ?_) _
            · 
              exact rfl
            · 
              exact rfl
          · 
            refine sumF_lift (f := (oK (S.rmchange_gk w0 g0 lo0 len0 nw0 ov0 r0 w1 g1 lo1 len1 nw1 ov1 r1 d k))) (fun o5 => ?_) (fun o5 => ?_) _
            · 
              exact rfl
            · 
              exact rfl
        · 
          refine opt_lift fun o4 => ?_
          refine opt_lift fun o5 => ?_
          exact rfl
      )
noncomputable def S.rmchange_p (w0 g0 : Int) (lo0 len0 : Nat) (nw0 : Int) (ov0 : Bool) (r0 : RL) (w1 g1 : Int) (lo1 len1 : Nat) (nw1 : Int) (ov1 : Bool) (r1 : RL) (d : Cf) : Option (Int × Rr × Rr) :=
  (S.rmchange w0 g0 lo0 len0 nw0 ov0 r0 w1 g1 lo1 len1 nw1 ov1 r1 d).bind (Sum.elim (fun v => some v) (fun _ => none))
noncomputable def H17 : Hnd := fun R args σ k => match args, σ with
  | [.ptr 0 0 0, .agg [.int .i64 target_, .int .i64 util_, .int .i64 stable_, .int .i64 panic_, .int .i64 grain_, .int .i64 threshold_, .int .i64 up_, .int .i64 down_, .int .i64 min_, .int .i64 max_, .int .i64 initial_, .int .i64 grace_, .int .i64 delay_, .int .i64 burst_, .int .i64 limit_, .int .i64 queue_, .int .i64 timeout_, .int .i64 ready_, .int .i64 subset_, .int .i64 sample_]], [.var [.ptr 1 0 0, .ptr 3 0 0], .var [.int .i64 w0, .int .i64 g0, .slice 2 2 lo0 len0 none, .int .i64 nw0, .bool ov0], .rows (.pair (.int .i64) (.int .i64)) r0 false, .var [.int .i64 w1, .int .i64 g1, .slice 2 4 lo1 len1 none, .int .i64 nw1, .bool ov1], .rows (.pair (.int .i64) (.int .i64)) r1 false] => oK (fun v : Int × Rr × Rr => k (.int .i64 v.1) [(.var [(.ptr 5 (0) 0), (.ptr 7 (0) 0)]), .dead, .dead, .dead, .dead, (.var [(.int .i64 (v.2.1.w)), (.int .i64 (v.2.1.g)), (.slice 2 6 (v.2.1.lo) (v.2.1.len) none), (.int .i64 (v.2.1.nw)), (.bool (v.2.1.ov))]), (.rows (Cd.pair (Cd.int .i64) (Cd.int .i64)) (v.2.1.r) false), (.var [(.int .i64 (v.2.2.w)), (.int .i64 (v.2.2.g)), (.slice 2 8 (v.2.2.lo) (v.2.2.len) none), (.int .i64 (v.2.2.nw)), (.bool (v.2.2.ov))]), (.rows (Cd.pair (Cd.int .i64) (Cd.int .i64)) (v.2.2.r) false)]) (S.rmchange_p w0 g0 lo0 len0 nw0 ov0 r0 w1 g1 lo1 len1 nw1 ov1 r1 ⟨target_, util_, stable_, panic_, grain_, threshold_, up_, down_, min_, max_, initial_, grace_, delay_, burst_, limit_, queue_, timeout_, ready_, subset_, sample_⟩)
  | _, _ => none
theorem H17_ok : HndOk Try.prog 17 H17 := hnd_ok tis tisOk mixOk G21_ok F17 Try.func17 rfl (by
  intro R args σ k r h
  unfold H17 at h
  split at h
  · rename_i target_ util_ stable_ panic_ grain_ threshold_ up_ down_ min_ max_ initial_ grace_ delay_ burst_ limit_ queue_ timeout_ ready_ subset_ sample_ w0 g0 lo0 len0 nw0 ov0 r0 w1 g1 lo1 len1 nw1 ov1 r1; exact ⟨0, (S.rmchange_v w0 g0 lo0 len0 nw0 ov0 r0 w1 g1 lo1 len1 nw1 ov1 r1 ⟨target_, util_, stable_, panic_, grain_, threshold_, up_, down_, min_, max_, initial_, grace_, delay_, burst_, limit_, queue_, timeout_, ready_, subset_, sample_⟩ _).trans (keep_lift (fun a b e => by rcases a with a | a <;> first | (cases e; rfl) | cases e) h)⟩
  · cases h)
noncomputable def G17 : Env := Env.add 17 H17 G21
theorem G17_ok : EnvOk Try.prog G17 := envAdd_ok H17_ok G21_ok
end Go.Proofs.Ytdflpflffccmgaa.AB
