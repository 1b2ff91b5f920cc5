/- The document's decider, as plain functions. -/
import Derived.Test.YtdgipcjigbagfaaGreatSref12
namespace Go.Proofs.YtdgipcjigbagfaaGreat.AB
set_option linter.unusedVariables false

/-! the document's stores, read -/
def rdRr (b : Nat) (x y : Blk) : Option Rr :=
  match x with
  | .var [.int .i64 w, .int .i64 g, .slice 2 b' lo len none, .int .i64 nw, .bool ov] => (match y with
    | .rows (.pair (.int .i64) (.int .i64)) r false => bif Nat.beq b' b then some ⟨w, g, lo, len, nw, ov, r⟩ else none
    | _ => none)
  | _ => none
theorem rdRr_spec {b : Nat} {x y : Blk} {R : Rr} (h : rdRr b x y = some R) : x = .var [.int .i64 R.w, .int .i64 R.g, .slice 2 b R.lo R.len none, .int .i64 R.nw, .bool R.ov] ∧ y = .rows (.pair (.int .i64) (.int .i64)) R.r false := by
  unfold rdRr at h
  split at h
  · split at h
    · obtain ⟨hc, h'⟩ := of_cond h
      clear h
      have e1 := Nat.eq_of_beq_eq_true hc
      subst e1
      injection h' with h'; subst h'; exact ⟨rfl, rfl⟩
    · cases h
  · cases h
def rdRd (b : Nat) (x y : Blk) : Option Rd :=
  match x with
  | .var [.int .i64 sp, .slice 2 b' lo len none] => (match y with
    | .rows (.pair (.int .i64) (.int .i64)) r false => bif Nat.beq b' b then some ⟨sp, lo, len, r⟩ else none
    | _ => none)
  | _ => none
theorem rdRd_spec {b : Nat} {x y : Blk} {R : Rd} (h : rdRd b x y = some R) : x = .var [.int .i64 R.sp, .slice 2 b R.lo R.len none] ∧ y = .rows (.pair (.int .i64) (.int .i64)) R.r false := by
  unfold rdRd at h
  split at h
  · split at h
    · obtain ⟨hc, h'⟩ := of_cond h
      clear h
      have e1 := Nat.eq_of_beq_eq_true hc
      subst e1
      injection h' with h'; subst h'; exact ⟨rfl, rfl⟩
    · cases h
  · cases h
def rdRDec (σ : List Blk) : Option (Cf × Int × Int × Int × Rr × Rr × Rd) :=
  match σ with
  | [.var m, .var [.ptr 2 0 0, .ptr 4 0 0], x0, y0, x1, y1, x2, y2] => (match rdCf m with
    | some (c, r) => (match r with
      | [.ptr 1 0 0, .int .i64 si, .int .i64 ms, .ptr 6 0 0, .int .i64 la] => (match rdRr 3 x0 y0 with
        | some P0 => (match rdRr 5 x1 y1 with
          | some P1 => (match rdRd 7 x2 y2 with
            | some Q => some (c, si, ms, la, P0, P1, Q)
            | none => none)
          | none => none)
        | none => none)
      | _ => none)
    | none => none)
  | _ => none
theorem rdRDec_spec {σ : List Blk} {c : Cf} {si ms la : Int} {P0 P1 : Rr} {Q : Rd} (h : rdRDec σ = some (c, si, ms, la, P0, P1, Q)) : σ = [.var (cfA c ++ [.ptr 1 0 0, .int .i64 si, .int .i64 ms, .ptr 6 0 0, .int .i64 la]), .var [.ptr 2 0 0, .ptr 4 0 0], .var [.int .i64 P0.w, .int .i64 P0.g, .slice 2 3 P0.lo P0.len none, .int .i64 P0.nw, .bool P0.ov], .rows (.pair (.int .i64) (.int .i64)) P0.r false, .var [.int .i64 P1.w, .int .i64 P1.g, .slice 2 5 P1.lo P1.len none, .int .i64 P1.nw, .bool P1.ov], .rows (.pair (.int .i64) (.int .i64)) P1.r false, .var [.int .i64 Q.sp, .slice 2 7 Q.lo Q.len none], .rows (.pair (.int .i64) (.int .i64)) Q.r false] := by
  unfold rdRDec at h
  split at h
  · split at h
    · rename_i hcf
      split at h
      · split at h
        · rename_i hr0
          split at h
          · rename_i hr1
            split at h
            · rename_i hr2
              simp only [Option.some.injEq, Prod.mk.injEq] at h
              obtain ⟨h1, h2, h3, h4, h5, h6, h7⟩ := h
              subst h1; subst h2; subst h3; subst h4; subst h5; subst h6; subst h7
              have q1 := rdCf_spec hcf
              obtain ⟨a0, b0⟩ := rdRr_spec hr0
              obtain ⟨a1, b1⟩ := rdRr_spec hr1
              obtain ⟨a2, b2⟩ := rdRd_spec hr2
              subst q1; subst a0; subst b0; subst a1; subst b1; subst a2; subst b2; rfl
            · cases h
          · cases h
        · cases h
      · cases h
    · cases h
  · cases h

/-! spinnakerref12.NewDecider -/
def F13 : FCfg := ⟨keepAt [(0, [1]), (1, [1, 5]), (2, [2]), (3, [2])], loopAt [], [⟨1, true, 0, [20, 0], 2, (.pair (.int .i64) (.int .i64)), none⟩, ⟨1, true, 0, [20, 1], 2, (.pair (.int .i64) (.int .i64)), none⟩, ⟨1, true, 0, [23], 1, (.pair (.int .i64) (.int .i64)), none⟩, ⟨2, true, 0, [20], 0, .bool, none⟩, ⟨2, true, 0, [20, 0], 0, .bool, none⟩, ⟨2, true, 0, [20, 0, 2], 0, .bool, none⟩, ⟨2, true, 0, [20, 1], 0, .bool, none⟩, ⟨2, true, 0, [20, 1, 2], 0, .bool, none⟩, ⟨2, true, 0, [23], 0, .bool, none⟩, ⟨2, true, 0, [23, 1], 0, .bool, none⟩]⟩
noncomputable def S.rdcnew_L {R : Type} (c : Cf) (k : AVal → List Blk → Option R) : Option R := fnEval tis F13 0 G45 Tryz.f13 [.agg (cfA c)] [] k
noncomputable def S.rdcnew_gk {R : Type} (c : Cf) (k : AVal → List Blk → Option R) : ((Unit) ⊕ (Cf) ⊕ (Cf × Rd) ⊕ (Cf × Rr × Rr) ⊕ (Cf × Rr × Rr × Rd)) → Option R := (Sum.elim (fun v : Unit => k .nilp []) (Sum.elim (fun v : Cf => k (.ptr 0 (0) 0) [(.var (cfA v ++ [.nilp, (.int .i64 (-1)), (.int .i64 (0)), .nilp, (.int .i64 (0))]))]) (Sum.elim (fun v : Cf × Rd => k (.ptr 0 (0) 0) [(.var (cfA v.1 ++ [.nilp, (.int .i64 (-1)), (.int .i64 (0)), (.ptr 1 (0) 0), (.int .i64 (0))])), (.var [(.int .i64 (v.2.sp)), (.slice 2 2 (v.2.lo) (v.2.len) none)]), (.rows (Cd.pair (Cd.int .i64) (Cd.int .i64)) (v.2.r) false)]) (Sum.elim (fun v : Cf × Rr × Rr => k (.ptr 0 (0) 0) [(.var (cfA v.1 ++ [(.ptr 1 (0) 0), (.int .i64 (-1)), (.int .i64 (0)), .nilp, (.int .i64 (0))])), (.var [(.ptr 2 (0) 0), (.ptr 4 (0) 0)]), (.var [(.int .i64 (v.2.1.w)), (.int .i64 (v.2.1.g)), (.slice 2 3 (v.2.1.lo) (v.2.1.len) none), (.int .i64 (v.2.1.nw)), (.bool (v.2.1.ov))]), (.rows (Cd.pair (Cd.int .i64) (Cd.int .i64)) (v.2.1.r) false), (.var [(.int .i64 (v.2.2.w)), (.int .i64 (v.2.2.g)), (.slice 2 5 (v.2.2.lo) (v.2.2.len) none), (.int .i64 (v.2.2.nw)), (.bool (v.2.2.ov))]), (.rows (Cd.pair (Cd.int .i64) (Cd.int .i64)) (v.2.2.r) false)]) (fun v : Cf × Rr × Rr × Rd => k (.ptr 0 (0) 0) [(.var (cfA v.1 ++ [(.ptr 1 (0) 0), (.int .i64 (-1)), (.int .i64 (0)), (.ptr 6 (0) 0), (.int .i64 (0))])), (.var [(.ptr 2 (0) 0), (.ptr 4 (0) 0)]), (.var [(.int .i64 (v.2.1.w)), (.int .i64 (v.2.1.g)), (.slice 2 3 (v.2.1.lo) (v.2.1.len) none), (.int .i64 (v.2.1.nw)), (.bool (v.2.1.ov))]), (.rows (Cd.pair (Cd.int .i64) (Cd.int .i64)) (v.2.1.r) false), (.var [(.int .i64 (v.2.2.1.w)), (.int .i64 (v.2.2.1.g)), (.slice 2 5 (v.2.2.1.lo) (v.2.2.1.len) none), (.int .i64 (v.2.2.1.nw)), (.bool (v.2.2.1.ov))]), (.rows (Cd.pair (Cd.int .i64) (Cd.int .i64)) (v.2.2.1.r) false), (.var [(.int .i64 (v.2.2.2.sp)), (.slice 2 7 (v.2.2.2.lo) (v.2.2.2.len) none)]), (.rows (Cd.pair (Cd.int .i64) (Cd.int .i64)) (v.2.2.2.r) false)])))))
noncomputable def S.rdcnew (c : Cf) : Option ((Unit) ⊕ (Cf) ⊕ (Cf × Rd) ⊕ (Cf × Rr × Rr) ⊕ (Cf × Rr × Rr × Rd)) :=
  bif !S.rmay c then
   some (.inl ())
 else
   (optK (S.rmnew_p c) fun o3 =>
   (Sum.elim (fun o4 : Unit =>
    (Sum.elim (fun o5 : Unit =>
    some (.inr (.inl (c)))) (fun o5 : Int =>
    some (.inr (.inr (.inl (c, (⟨o5, 0, 0, []⟩ : Rd)))))) (S.rdnew c.delay))) (fun o4 : Rr × Rr =>
    (Sum.elim (fun o5 : Unit =>
    some (.inr (.inr (.inr (.inl (c, o4.1, o4.2)))))) (fun o5 : Int =>
    some (.inr (.inr (.inr (.inr (c, o4.1, o4.2, (⟨o5, 0, 0, []⟩ : Rd))))))) (S.rdnew c.delay))) (o3)))
theorem S.rdcnew_v {R : Type} (c : Cf) (k : AVal → List Blk → Option R) : S.rdcnew_L c k = oK (S.rdcnew_gk c k) (S.rdcnew c) :=
  (show S.rdcnew_L c k =
  (bif !S.rmay c then
   (S.rdcnew_gk c k) (.inl ())
 else
   (optK (S.rmnew_p c) fun o3 =>
   (Sum.elim (fun o4 : Unit =>
    (Sum.elim (fun o5 : Unit =>
    (S.rdcnew_gk c k) (.inr (.inl (c)))) (fun o5 : Int =>
    (S.rdcnew_gk c k) (.inr (.inr (.inl (c, (⟨o5, 0, 0, []⟩ : Rd)))))) (S.rdnew c.delay))) (fun o4 : Rr × Rr =>
    (Sum.elim (fun o5 : Unit =>
    (S.rdcnew_gk c k) (.inr (.inr (.inr (.inl (c, o4.1, o4.2)))))) (fun o5 : Int =>
    (S.rdcnew_gk c k) (.inr (.inr (.inr (.inr (c, o4.1, o4.2, (⟨o5, 0, 0, []⟩ : Rd))))))) (S.rdnew c.delay))) (o3)))) from by kernel_rfl).trans (by
      unfold S.rdcnew
      refine bif_lift (f := (oK (S.rdcnew_gk c k))) ?_ ?_
      · 
        exact rfl
      · 
        refine opt_lift fun o3 => ?_
        refine sumF_lift (f := (oK (S.rdcnew_gk c k))) (fun o4 => ?_) (fun o4 => ?_) _
        · 
          refine sumF_lift (f := (oK (S.rdcnew_gk c k))) (fun o5 => ?_) (fun o5 => ?_) _
          · 
            exact rfl
          · 
            exact rfl
        · 
          refine sumF_lift (f := (oK (S.rdcnew_gk c k))) (fun o5 => ?_) (fun o5 => ?_) _
          · 
            exact rfl
          · 
            exact rfl
      )
noncomputable def S.rdcnew_p (c : Cf) : Option ((Unit) ⊕ (Cf × Rr × Rr × Rd)) :=
  (S.rdcnew c).bind (Sum.elim (fun v => some (.inl v)) (Sum.elim (fun _ => none) (Sum.elim (fun _ => none) (Sum.elim (fun _ => none) (fun v => some (.inr v))))))
noncomputable def H13 : Hnd := fun R args σ k => match args, σ with
  | [.agg [.int .i64 target_, .int .i64 util_, .int .i64 stable_, .int .i64 panic_, .int .i64 grain_, .int .i64 threshold_, .int .i64 up_, .int .i64 down_, .int .i64 min_, .int .i64 max_, .int .i64 initial_, .int .i64 grace_, .int .i64 delay_, .int .i64 burst_, .int .i64 limit_, .int .i64 queue_, .int .i64 timeout_, .int .i64 ready_, .int .i64 subset_, .int .i64 sample_]], [] => oK (Sum.elim (fun v : Unit => k .nilp []) (fun v : Cf × Rr × Rr × Rd => k (.ptr 0 (0) 0) [(.var (cfA v.1 ++ [(.ptr 1 (0) 0), (.int .i64 (-1)), (.int .i64 (0)), (.ptr 6 (0) 0), (.int .i64 (0))])), (.var [(.ptr 2 (0) 0), (.ptr 4 (0) 0)]), (.var [(.int .i64 (v.2.1.w)), (.int .i64 (v.2.1.g)), (.slice 2 3 (v.2.1.lo) (v.2.1.len) none), (.int .i64 (v.2.1.nw)), (.bool (v.2.1.ov))]), (.rows (Cd.pair (Cd.int .i64) (Cd.int .i64)) (v.2.1.r) false), (.var [(.int .i64 (v.2.2.1.w)), (.int .i64 (v.2.2.1.g)), (.slice 2 5 (v.2.2.1.lo) (v.2.2.1.len) none), (.int .i64 (v.2.2.1.nw)), (.bool (v.2.2.1.ov))]), (.rows (Cd.pair (Cd.int .i64) (Cd.int .i64)) (v.2.2.1.r) false), (.var [(.int .i64 (v.2.2.2.sp)), (.slice 2 7 (v.2.2.2.lo) (v.2.2.2.len) none)]), (.rows (Cd.pair (Cd.int .i64) (Cd.int .i64)) (v.2.2.2.r) false)])) (S.rdcnew_p ⟨target_, util_, stable_, panic_, grain_, threshold_, up_, down_, min_, max_, initial_, grace_, delay_, burst_, limit_, queue_, timeout_, ready_, subset_, sample_⟩)
  | _, _ => none
theorem H13_ok : HndOk Tryz.prog 13 H13 := hnd_ok tis tisOk mixOk G45_ok F13 Tryz.func13 rfl (by
  intro R args σ k r h
  unfold H13 at h
  split at h
  · rename_i target_ util_ stable_ panic_ grain_ threshold_ up_ down_ min_ max_ initial_ grace_ delay_ burst_ limit_ queue_ timeout_ ready_ subset_ sample_; exact ⟨0, (S.rdcnew_v ⟨target_, util_, stable_, panic_, grain_, threshold_, up_, down_, min_, max_, initial_, grace_, delay_, burst_, limit_, queue_, timeout_, ready_, subset_, sample_⟩ _).trans (keep_lift (fun a b e => by rcases a with a | a | a | a | a <;> first | (cases e; rfl) | cases e) h)⟩
  · cases h)
noncomputable def G13 : Env := Env.add 13 H13 G45
theorem G13_ok : EnvOk Tryz.prog G13 := envAdd_ok H13_ok G45_ok

/-! (*spinnakerref12.Decider).Next -/
def F20 : FCfg := ⟨keepAt [(0, [0, 1, 2, 6]), (1, [0, 1, 2, 6, 31]), (2, [6, 7]), (3, [0, 1, 2, 6]), (4, [0, 1, 2, 6, 8, 9]), (5, [0, 1, 2, 6, 8, 9, 10, 11]), (6, [0, 1, 2, 6, 8, 9, 10, 11]), (7, [0, 1, 2, 6, 8, 9, 11, 12]), (8, [0, 1, 2, 6, 8, 9, 11, 12, 98]), (9, [0, 1, 2, 6, 8, 9, 12]), (10, [0, 1, 2, 6, 8, 9]), (11, [0, 1, 2, 6, 8, 9, 13]), (12, [0, 1, 2, 6, 8, 9, 13]), (13, [0, 1, 2, 6, 8, 9, 13]), (14, [6, 7])], loopAt [], [⟨2, false, 0, [20], 0, .bool, none⟩, ⟨2, false, 0, [20, 0], 0, .bool, none⟩, ⟨2, false, 0, [20, 0, 2], 0, .bool, none⟩, ⟨2, false, 0, [20, 1], 0, .bool, none⟩, ⟨2, false, 0, [20, 1, 2], 0, .bool, none⟩, ⟨2, false, 0, [23], 0, .bool, none⟩, ⟨2, false, 0, [23, 1], 0, .bool, none⟩, ⟨3, false, 1, [], 0, .bool, none⟩, ⟨3, false, 2, [], 0, .bool, none⟩, ⟨3, false, 3, [], 0, .bool, none⟩, ⟨3, false, 4, [], 0, .bool, none⟩, ⟨3, false, 5, [], 0, .bool, none⟩, ⟨3, false, 6, [], 0, .bool, none⟩, ⟨3, false, 7, [], 0, .bool, none⟩]⟩
noncomputable def S.rdcnext_L {R : Type} (c : Cf) (si ms la : Int) (P0 : Rr) (P1 : Rr) (Q : Rd) (t r : Int) (k : AVal → List Blk → Option R) : Option R := fnEval tis F20 0 G13 Tryz.f20 [.ptr 0 0 0, .int .i64 t, .int .i64 r] [.var (cfA c ++ [.ptr 1 0 0, .int .i64 si, .int .i64 ms, .ptr 6 0 0, .int .i64 la]), .var [.ptr 2 0 0, .ptr 4 0 0], .var [.int .i64 P0.w, .int .i64 P0.g, .slice 2 3 P0.lo P0.len none, .int .i64 P0.nw, .bool P0.ov], .rows (.pair (.int .i64) (.int .i64)) P0.r false, .var [.int .i64 P1.w, .int .i64 P1.g, .slice 2 5 P1.lo P1.len none, .int .i64 P1.nw, .bool P1.ov], .rows (.pair (.int .i64) (.int .i64)) P1.r false, .var [.int .i64 Q.sp, .slice 2 7 Q.lo Q.len none], .rows (.pair (.int .i64) (.int .i64)) Q.r false] k
noncomputable def S.rdcnext_gk {R : Type} (c : Cf) (si ms la : Int) (P0 : Rr) (P1 : Rr) (Q : Rd) (t r : Int) (k : AVal → List Blk → Option R) : (Int × Int × Int × Int × Bool × Int × Int × Cf × Int × Int × Int × Rr × Rr × Rd) → Option R := (fun v : Int × Int × Int × Int × Bool × Int × Int × Cf × Int × Int × Int × Rr × Rr × Rd => k (.tuple [(.agg [(.int .i64 v.1), (.int .i64 v.2.1), (.int .i64 v.2.2.1), (.int .i64 v.2.2.2.1), (.bool v.2.2.2.2.1), (.int .i64 v.2.2.2.2.2.1)]), (.int .i64 v.2.2.2.2.2.2.1)]) [(.var (cfA v.2.2.2.2.2.2.2.1 ++ [(.ptr 8 (0) 0), (.int .i64 v.2.2.2.2.2.2.2.2.1), (.int .i64 v.2.2.2.2.2.2.2.2.2.1), (.ptr 13 (0) 0), (.int .i64 v.2.2.2.2.2.2.2.2.2.2.1)])), .dead, .dead, .dead, .dead, .dead, .dead, .dead, (.var [(.ptr 9 (0) 0), (.ptr 11 (0) 0)]), (.var [(.int .i64 (v.2.2.2.2.2.2.2.2.2.2.2.1.w)), (.int .i64 (v.2.2.2.2.2.2.2.2.2.2.2.1.g)), (.slice 2 10 (v.2.2.2.2.2.2.2.2.2.2.2.1.lo) (v.2.2.2.2.2.2.2.2.2.2.2.1.len) none), (.int .i64 (v.2.2.2.2.2.2.2.2.2.2.2.1.nw)), (.bool (v.2.2.2.2.2.2.2.2.2.2.2.1.ov))]), (.rows (Cd.pair (Cd.int .i64) (Cd.int .i64)) (v.2.2.2.2.2.2.2.2.2.2.2.1.r) false), (.var [(.int .i64 (v.2.2.2.2.2.2.2.2.2.2.2.2.1.w)), (.int .i64 (v.2.2.2.2.2.2.2.2.2.2.2.2.1.g)), (.slice 2 12 (v.2.2.2.2.2.2.2.2.2.2.2.2.1.lo) (v.2.2.2.2.2.2.2.2.2.2.2.2.1.len) none), (.int .i64 (v.2.2.2.2.2.2.2.2.2.2.2.2.1.nw)), (.bool (v.2.2.2.2.2.2.2.2.2.2.2.2.1.ov))]), (.rows (Cd.pair (Cd.int .i64) (Cd.int .i64)) (v.2.2.2.2.2.2.2.2.2.2.2.2.1.r) false), (.var [(.int .i64 (v.2.2.2.2.2.2.2.2.2.2.2.2.2.sp)), (.slice 2 14 (v.2.2.2.2.2.2.2.2.2.2.2.2.2.lo) (v.2.2.2.2.2.2.2.2.2.2.2.2.2.len) none)]), (.rows (Cd.pair (Cd.int .i64) (Cd.int .i64)) (v.2.2.2.2.2.2.2.2.2.2.2.2.2.r) false)])
noncomputable def S.rdcnext (c : Cf) (si ms la : Int) (P0 : Rr) (P1 : Rr) (Q : Rd) (t r : Int) : Option (Int × Int × Int × Int × Bool × Int × Int × Cf × Int × Int × Int × Rr × Rr × Rd) :=
  bif decide (t < la) then
   some (0, 0, 0, 0, false, 0, 1, c, si, ms, la, P0, P1, Q)
 else
   bif decide (1099511627776 < t) then
   some (0, 0, 0, 0, false, 0, 1, c, si, ms, la, P0, P1, Q)
 else
   bif decide (r < 0) then
   some (0, 0, 0, 0, false, 0, 1, c, si, ms, la, P0, P1, Q)
 else
   bif decide (100 < r) then
   some (0, 0, 0, 0, false, 0, 1, c, si, ms, la, P0, P1, Q)
 else
   (optK (S.rmean P0.r P0.lo P0.len P0.w P0.g P0.nw P0.ov t) fun o6 =>
   (optK (S.rmean P1.r P1.lo P1.len P1.w P1.g P1.nw P1.ov t) fun o7 =>
   (optK (S.rof c o6.1) fun o8 =>
   (optK (S.rof c o7.1) fun o9 =>
   (optK (S.rlimit c o8 r) fun o10 =>
   bif S.ris (Prod.fst (S.rnext si ms c t (S.rover c o9 r))) (Prod.snd (S.rnext si ms c t (S.rover c o9 r))) then
   (optK (S.rlimit c o9 r) fun o12 =>
   (optK (S.rdput Q.r Q.lo Q.len Q.sp t (if o12 > o10 then o12 else o10)) fun o13 =>
   (optK (S.rdmost 100000 o13.2.2.2.2 o13.2.2.1 o13.2.2.2.1 o13.2.1 t) fun o14 =>
   some (t, o6.1, o7.1, if c.min > if S.rcmost c < Prod.snd (Prod.snd (S.rkeep (Prod.fst (S.rnext si ms c t (S.rover c o9 r))) (Prod.snd (S.rnext si ms c t (S.rover c o9 r))) o14)) then S.rcmost c else Prod.snd (Prod.snd (S.rkeep (Prod.fst (S.rnext si ms c t (S.rover c o9 r))) (Prod.snd (S.rnext si ms c t (S.rover c o9 r))) o14)) then c.min else if S.rcmost c < Prod.snd (Prod.snd (S.rkeep (Prod.fst (S.rnext si ms c t (S.rover c o9 r))) (Prod.snd (S.rnext si ms c t (S.rover c o9 r))) o14)) then S.rcmost c else Prod.snd (Prod.snd (S.rkeep (Prod.fst (S.rnext si ms c t (S.rover c o9 r))) (Prod.snd (S.rnext si ms c t (S.rover c o9 r))) o14)), S.ris (Prod.fst (S.rkeep (Prod.fst (S.rnext si ms c t (S.rover c o9 r))) (Prod.snd (S.rnext si ms c t (S.rover c o9 r))) o14)) (Prod.fst (Prod.snd (S.rkeep (Prod.fst (S.rnext si ms c t (S.rover c o9 r))) (Prod.snd (S.rnext si ms c t (S.rover c o9 r))) o14))), S.rexcess c r o7.1, 0, c, Prod.fst (S.rkeep (Prod.fst (S.rnext si ms c t (S.rover c o9 r))) (Prod.snd (S.rnext si ms c t (S.rover c o9 r))) o14), Prod.fst (Prod.snd (S.rkeep (Prod.fst (S.rnext si ms c t (S.rover c o9 r))) (Prod.snd (S.rnext si ms c t (S.rover c o9 r))) o14)), t, (⟨o6.2.1, o6.2.2.1, o6.2.2.2.1, o6.2.2.2.2.1, o6.2.2.2.2.2.1, o6.2.2.2.2.2.2.1, o6.2.2.2.2.2.2.2⟩ : Rr), (⟨o7.2.1, o7.2.2.1, o7.2.2.2.1, o7.2.2.2.2.1, o7.2.2.2.2.2.1, o7.2.2.2.2.2.2.1, o7.2.2.2.2.2.2.2⟩ : Rr), (⟨o13.2.1, o13.2.2.1, o13.2.2.2.1, o13.2.2.2.2⟩ : Rd)))))
 else
   (optK (S.rdput Q.r Q.lo Q.len Q.sp t o10) fun o12 =>
   (optK (S.rdmost 100000 o12.2.2.2.2 o12.2.2.1 o12.2.2.2.1 o12.2.1 t) fun o13 =>
   some (t, o6.1, o7.1, if c.min > if S.rcmost c < Prod.snd (Prod.snd (S.rkeep (Prod.fst (S.rnext si ms c t (S.rover c o9 r))) (Prod.snd (S.rnext si ms c t (S.rover c o9 r))) o13)) then S.rcmost c else Prod.snd (Prod.snd (S.rkeep (Prod.fst (S.rnext si ms c t (S.rover c o9 r))) (Prod.snd (S.rnext si ms c t (S.rover c o9 r))) o13)) then c.min else if S.rcmost c < Prod.snd (Prod.snd (S.rkeep (Prod.fst (S.rnext si ms c t (S.rover c o9 r))) (Prod.snd (S.rnext si ms c t (S.rover c o9 r))) o13)) then S.rcmost c else Prod.snd (Prod.snd (S.rkeep (Prod.fst (S.rnext si ms c t (S.rover c o9 r))) (Prod.snd (S.rnext si ms c t (S.rover c o9 r))) o13)), S.ris (Prod.fst (S.rkeep (Prod.fst (S.rnext si ms c t (S.rover c o9 r))) (Prod.snd (S.rnext si ms c t (S.rover c o9 r))) o13)) (Prod.fst (Prod.snd (S.rkeep (Prod.fst (S.rnext si ms c t (S.rover c o9 r))) (Prod.snd (S.rnext si ms c t (S.rover c o9 r))) o13))), S.rexcess c r o7.1, 0, c, Prod.fst (S.rkeep (Prod.fst (S.rnext si ms c t (S.rover c o9 r))) (Prod.snd (S.rnext si ms c t (S.rover c o9 r))) o13), Prod.fst (Prod.snd (S.rkeep (Prod.fst (S.rnext si ms c t (S.rover c o9 r))) (Prod.snd (S.rnext si ms c t (S.rover c o9 r))) o13)), t, (⟨o6.2.1, o6.2.2.1, o6.2.2.2.1, o6.2.2.2.2.1, o6.2.2.2.2.2.1, o6.2.2.2.2.2.2.1, o6.2.2.2.2.2.2.2⟩ : Rr), (⟨o7.2.1, o7.2.2.1, o7.2.2.2.1, o7.2.2.2.2.1, o7.2.2.2.2.2.1, o7.2.2.2.2.2.2.1, o7.2.2.2.2.2.2.2⟩ : Rr), (⟨o12.2.1, o12.2.2.1, o12.2.2.2.1, o12.2.2.2.2⟩ : Rd)))))))))
theorem S.rdcnext_v {R : Type} (c : Cf) (si ms la : Int) (P0 : Rr) (P1 : Rr) (Q : Rd) (t r : Int) (k : AVal → List Blk → Option R) : S.rdcnext_L c si ms la P0 P1 Q t r k = oK (S.rdcnext_gk c si ms la P0 P1 Q t r k) (S.rdcnext c si ms la P0 P1 Q t r) :=
  (show S.rdcnext_L c si ms la P0 P1 Q t r k =
  (bif decide (t < la) then
   (S.rdcnext_gk c si ms la P0 P1 Q t r k) (0, 0, 0, 0, false, 0, 1, c, si, ms, la, P0, P1, Q)
 else
   bif decide (1099511627776 < t) then
   (S.rdcnext_gk c si ms la P0 P1 Q t r k) (0, 0, 0, 0, false, 0, 1, c, si, ms, la, P0, P1, Q)
 else
   bif decide (r < 0) then
   (S.rdcnext_gk c si ms la P0 P1 Q t r k) (0, 0, 0, 0, false, 0, 1, c, si, ms, la, P0, P1, Q)
 else
   bif decide (100 < r) then
   (S.rdcnext_gk c si ms la P0 P1 Q t r k) (0, 0, 0, 0, false, 0, 1, c, si, ms, la, P0, P1, Q)
 else
   (optK (S.rmean P0.r P0.lo P0.len P0.w P0.g P0.nw P0.ov t) fun o6 =>
   (optK (S.rmean P1.r P1.lo P1.len P1.w P1.g P1.nw P1.ov t) fun o7 =>
   (optK (S.rof c o6.1) fun o8 =>
   (optK (S.rof c o7.1) fun o9 =>
   (optK (S.rlimit c o8 r) fun o10 =>
   bif S.ris (Prod.fst (S.rnext si ms c t (S.rover c o9 r))) (Prod.snd (S.rnext si ms c t (S.rover c o9 r))) then
   (optK (S.rlimit c o9 r) fun o12 =>
   (optK (S.rdput Q.r Q.lo Q.len Q.sp t (if o12 > o10 then o12 else o10)) fun o13 =>
   (optK (S.rdmost 100000 o13.2.2.2.2 o13.2.2.1 o13.2.2.2.1 o13.2.1 t) fun o14 =>
   (S.rdcnext_gk c si ms la P0 P1 Q t r k) (t, o6.1, o7.1, if c.min > if S.rcmost c < Prod.snd (Prod.snd (S.rkeep (Prod.fst (S.rnext si ms c t (S.rover c o9 r))) (Prod.snd (S.rnext si ms c t (S.rover c o9 r))) o14)) then S.rcmost c else Prod.snd (Prod.snd (S.rkeep (Prod.fst (S.rnext si ms c t (S.rover c o9 r))) (Prod.snd (S.rnext si ms c t (S.rover c o9 r))) o14)) then c.min else if S.rcmost c < Prod.snd (Prod.snd (S.rkeep (Prod.fst (S.rnext si ms c t (S.rover c o9 r))) (Prod.snd (S.rnext si ms c t (S.rover c o9 r))) o14)) then S.rcmost c else Prod.snd (Prod.snd (S.rkeep (Prod.fst (S.rnext si ms c t (S.rover c o9 r))) (Prod.snd (S.rnext si ms c t (S.rover c o9 r))) o14)), S.ris (Prod.fst (S.rkeep (Prod.fst (S.rnext si ms c t (S.rover c o9 r))) (Prod.snd (S.rnext si ms c t (S.rover c o9 r))) o14)) (Prod.fst (Prod.snd (S.rkeep (Prod.fst (S.rnext si ms c t (S.rover c o9 r))) (Prod.snd (S.rnext si ms c t (S.rover c o9 r))) o14))), S.rexcess c r o7.1, 0, c, Prod.fst (S.rkeep (Prod.fst (S.rnext si ms c t (S.rover c o9 r))) (Prod.snd (S.rnext si ms c t (S.rover c o9 r))) o14), Prod.fst (Prod.snd (S.rkeep (Prod.fst (S.rnext si ms c t (S.rover c o9 r))) (Prod.snd (S.rnext si ms c t (S.rover c o9 r))) o14)), t, (⟨o6.2.1, o6.2.2.1, o6.2.2.2.1, o6.2.2.2.2.1, o6.2.2.2.2.2.1, o6.2.2.2.2.2.2.1, o6.2.2.2.2.2.2.2⟩ : Rr), (⟨o7.2.1, o7.2.2.1, o7.2.2.2.1, o7.2.2.2.2.1, o7.2.2.2.2.2.1, o7.2.2.2.2.2.2.1, o7.2.2.2.2.2.2.2⟩ : Rr), (⟨o13.2.1, o13.2.2.1, o13.2.2.2.1, o13.2.2.2.2⟩ : Rd)))))
 else
   (optK (S.rdput Q.r Q.lo Q.len Q.sp t o10) fun o12 =>
   (optK (S.rdmost 100000 o12.2.2.2.2 o12.2.2.1 o12.2.2.2.1 o12.2.1 t) fun o13 =>
   (S.rdcnext_gk c si ms la P0 P1 Q t r k) (t, o6.1, o7.1, if c.min > if S.rcmost c < Prod.snd (Prod.snd (S.rkeep (Prod.fst (S.rnext si ms c t (S.rover c o9 r))) (Prod.snd (S.rnext si ms c t (S.rover c o9 r))) o13)) then S.rcmost c else Prod.snd (Prod.snd (S.rkeep (Prod.fst (S.rnext si ms c t (S.rover c o9 r))) (Prod.snd (S.rnext si ms c t (S.rover c o9 r))) o13)) then c.min else if S.rcmost c < Prod.snd (Prod.snd (S.rkeep (Prod.fst (S.rnext si ms c t (S.rover c o9 r))) (Prod.snd (S.rnext si ms c t (S.rover c o9 r))) o13)) then S.rcmost c else Prod.snd (Prod.snd (S.rkeep (Prod.fst (S.rnext si ms c t (S.rover c o9 r))) (Prod.snd (S.rnext si ms c t (S.rover c o9 r))) o13)), S.ris (Prod.fst (S.rkeep (Prod.fst (S.rnext si ms c t (S.rover c o9 r))) (Prod.snd (S.rnext si ms c t (S.rover c o9 r))) o13)) (Prod.fst (Prod.snd (S.rkeep (Prod.fst (S.rnext si ms c t (S.rover c o9 r))) (Prod.snd (S.rnext si ms c t (S.rover c o9 r))) o13))), S.rexcess c r o7.1, 0, c, Prod.fst (S.rkeep (Prod.fst (S.rnext si ms c t (S.rover c o9 r))) (Prod.snd (S.rnext si ms c t (S.rover c o9 r))) o13), Prod.fst (Prod.snd (S.rkeep (Prod.fst (S.rnext si ms c t (S.rover c o9 r))) (Prod.snd (S.rnext si ms c t (S.rover c o9 r))) o13)), t, (⟨o6.2.1, o6.2.2.1, o6.2.2.2.1, o6.2.2.2.2.1, o6.2.2.2.2.2.1, o6.2.2.2.2.2.2.1, o6.2.2.2.2.2.2.2⟩ : Rr), (⟨o7.2.1, o7.2.2.1, o7.2.2.2.1, o7.2.2.2.2.1, o7.2.2.2.2.2.1, o7.2.2.2.2.2.2.1, o7.2.2.2.2.2.2.2⟩ : Rr), (⟨o12.2.1, o12.2.2.1, o12.2.2.2.1, o12.2.2.2.2⟩ : Rd)))))))))) from by kernel_rfl).trans (bif_lift (f := (oK (S.rdcnext_gk c si ms la P0 P1 Q t r k))) rfl (bif_lift (f := (oK (S.rdcnext_gk c si ms la P0 P1 Q t r k))) rfl (bif_lift (f := (oK (S.rdcnext_gk c si ms la P0 P1 Q t r k))) rfl (bif_lift (f := (oK (S.rdcnext_gk c si ms la P0 P1 Q t r k))) rfl (opt_lift fun o6 => (opt_lift fun o7 => (opt_lift fun o8 => (opt_lift fun o9 => (opt_lift fun o10 => (bif_lift (f := (oK (S.rdcnext_gk c si ms la P0 P1 Q t r k))) (opt_lift fun o12 => (opt_lift fun o13 => (opt_lift fun o14 => rfl))) (opt_lift fun o12 => (opt_lift fun o13 => rfl))))))))))))
noncomputable def H20 : Hnd := fun R args σ k => match args with
  | [.ptr 0 0 0, .int .i64 t, .int .i64 r] => (match rdRDec σ with | some (c, si, ms, la, P0, P1, Q) => oK (fun v : Int × Int × Int × Int × Bool × Int × Int × Cf × Int × Int × Int × Rr × Rr × Rd => k (.tuple [(.agg [(.int .i64 v.1), (.int .i64 v.2.1), (.int .i64 v.2.2.1), (.int .i64 v.2.2.2.1), (.bool v.2.2.2.2.1), (.int .i64 v.2.2.2.2.2.1)]), (.int .i64 v.2.2.2.2.2.2.1)]) [(.var (cfA v.2.2.2.2.2.2.2.1 ++ [(.ptr 8 (0) 0), (.int .i64 v.2.2.2.2.2.2.2.2.1), (.int .i64 v.2.2.2.2.2.2.2.2.2.1), (.ptr 13 (0) 0), (.int .i64 v.2.2.2.2.2.2.2.2.2.2.1)])), .dead, .dead, .dead, .dead, .dead, .dead, .dead, (.var [(.ptr 9 (0) 0), (.ptr 11 (0) 0)]), (.var [(.int .i64 (v.2.2.2.2.2.2.2.2.2.2.2.1.w)), (.int .i64 (v.2.2.2.2.2.2.2.2.2.2.2.1.g)), (.slice 2 10 (v.2.2.2.2.2.2.2.2.2.2.2.1.lo) (v.2.2.2.2.2.2.2.2.2.2.2.1.len) none), (.int .i64 (v.2.2.2.2.2.2.2.2.2.2.2.1.nw)), (.bool (v.2.2.2.2.2.2.2.2.2.2.2.1.ov))]), (.rows (Cd.pair (Cd.int .i64) (Cd.int .i64)) (v.2.2.2.2.2.2.2.2.2.2.2.1.r) false), (.var [(.int .i64 (v.2.2.2.2.2.2.2.2.2.2.2.2.1.w)), (.int .i64 (v.2.2.2.2.2.2.2.2.2.2.2.2.1.g)), (.slice 2 12 (v.2.2.2.2.2.2.2.2.2.2.2.2.1.lo) (v.2.2.2.2.2.2.2.2.2.2.2.2.1.len) none), (.int .i64 (v.2.2.2.2.2.2.2.2.2.2.2.2.1.nw)), (.bool (v.2.2.2.2.2.2.2.2.2.2.2.2.1.ov))]), (.rows (Cd.pair (Cd.int .i64) (Cd.int .i64)) (v.2.2.2.2.2.2.2.2.2.2.2.2.1.r) false), (.var [(.int .i64 (v.2.2.2.2.2.2.2.2.2.2.2.2.2.sp)), (.slice 2 14 (v.2.2.2.2.2.2.2.2.2.2.2.2.2.lo) (v.2.2.2.2.2.2.2.2.2.2.2.2.2.len) none)]), (.rows (Cd.pair (Cd.int .i64) (Cd.int .i64)) (v.2.2.2.2.2.2.2.2.2.2.2.2.2.r) false)]) (S.rdcnext c si ms la P0 P1 Q t r) | none => none)
  | _ => none
theorem H20_ok : HndOk Tryz.prog 20 H20 := hnd_ok tis tisOk mixOk G13_ok F20 Tryz.func20 rfl (by
  intro R args σ k r h
  unfold H20 at h
  split at h
  · rename_i t r; cases hd : rdRDec σ with
    | none => simp only [hd] at h; cases h
    | some q0 =>
      obtain ⟨c, si, ms, la, P0, P1, Q⟩ := q0
      simp only [hd] at h
      have e := rdRDec_spec hd; subst e
      exact ⟨0, (S.rdcnext_v c si ms la P0 P1 Q t r _).trans h⟩
  · cases h)
noncomputable def G20 : Env := Env.add 20 H20 G13
theorem G20_ok : EnvOk Tryz.prog G20 := envAdd_ok H20_ok G13_ok

/-! (*spinnakerref12.Decider).Change -/
def F18 : FCfg := ⟨keepAt [(0, [0, 3]), (1, [0, 3, 5]), (2, [0, 3, 5, 13]), (3, [4]), (4, [0, 3]), (5, [0, 3]), (6, []), (7, [4])], loopAt [], [⟨2, false, 0, [20], 0, .bool, none⟩, ⟨2, false, 0, [20, 0], 0, .bool, none⟩, ⟨2, false, 0, [20, 0, 2], 0, .bool, none⟩, ⟨2, false, 0, [20, 1], 0, .bool, none⟩, ⟨2, false, 0, [20, 1, 2], 0, .bool, none⟩, ⟨2, false, 0, [23], 0, .bool, none⟩, ⟨2, false, 0, [23, 1], 0, .bool, none⟩, ⟨3, false, 1, [], 0, .bool, none⟩, ⟨3, false, 2, [], 0, .bool, none⟩, ⟨3, false, 3, [], 0, .bool, none⟩, ⟨3, false, 4, [], 0, .bool, none⟩, ⟨3, false, 5, [], 0, .bool, none⟩, ⟨3, false, 6, [], 0, .bool, none⟩, ⟨3, false, 7, [], 0, .bool, none⟩]⟩
noncomputable def S.rdcchange_L {R : Type} (c : Cf) (si ms la : Int) (P0 : Rr) (P1 : Rr) (Q : Rd) (d : Cf) (k : AVal → List Blk → Option R) : Option R := fnEval tis F18 0 G20 Tryz.f18 [.ptr 0 0 0, .agg (cfA d)] [.var (cfA c ++ [.ptr 1 0 0, .int .i64 si, .int .i64 ms, .ptr 6 0 0, .int .i64 la]), .var [.ptr 2 0 0, .ptr 4 0 0], .var [.int .i64 P0.w, .int .i64 P0.g, .slice 2 3 P0.lo P0.len none, .int .i64 P0.nw, .bool P0.ov], .rows (.pair (.int .i64) (.int .i64)) P0.r false, .var [.int .i64 P1.w, .int .i64 P1.g, .slice 2 5 P1.lo P1.len none, .int .i64 P1.nw, .bool P1.ov], .rows (.pair (.int .i64) (.int .i64)) P1.r false, .var [.int .i64 Q.sp, .slice 2 7 Q.lo Q.len none], .rows (.pair (.int .i64) (.int .i64)) Q.r false] k
noncomputable def S.rdcchange_gk {R : Type} (c : Cf) (si ms la : Int) (P0 : Rr) (P1 : Rr) (Q : Rd) (d : Cf) (k : AVal → List Blk → Option R) : (Int × Cf × Int × Int × Int × Rr × Rr × Rd) → Option R := (fun v : Int × Cf × Int × Int × Int × Rr × Rr × Rd => k (.int .i64 v.1) [(.var (cfA v.2.1 ++ [(.ptr 8 (0) 0), (.int .i64 v.2.2.1), (.int .i64 v.2.2.2.1), (.ptr 13 (0) 0), (.int .i64 v.2.2.2.2.1)])), .dead, .dead, .dead, .dead, .dead, .dead, .dead, (.var [(.ptr 9 (0) 0), (.ptr 11 (0) 0)]), (.var [(.int .i64 (v.2.2.2.2.2.1.w)), (.int .i64 (v.2.2.2.2.2.1.g)), (.slice 2 10 (v.2.2.2.2.2.1.lo) (v.2.2.2.2.2.1.len) none), (.int .i64 (v.2.2.2.2.2.1.nw)), (.bool (v.2.2.2.2.2.1.ov))]), (.rows (Cd.pair (Cd.int .i64) (Cd.int .i64)) (v.2.2.2.2.2.1.r) false), (.var [(.int .i64 (v.2.2.2.2.2.2.1.w)), (.int .i64 (v.2.2.2.2.2.2.1.g)), (.slice 2 12 (v.2.2.2.2.2.2.1.lo) (v.2.2.2.2.2.2.1.len) none), (.int .i64 (v.2.2.2.2.2.2.1.nw)), (.bool (v.2.2.2.2.2.2.1.ov))]), (.rows (Cd.pair (Cd.int .i64) (Cd.int .i64)) (v.2.2.2.2.2.2.1.r) false), (.var [(.int .i64 (v.2.2.2.2.2.2.2.sp)), (.slice 2 14 (v.2.2.2.2.2.2.2.lo) (v.2.2.2.2.2.2.2.len) none)]), (.rows (Cd.pair (Cd.int .i64) (Cd.int .i64)) (v.2.2.2.2.2.2.2.r) false)])
noncomputable def S.rdcchange (c : Cf) (si ms la : Int) (P0 : Rr) (P1 : Rr) (Q : Rd) (d : Cf) : Option (Int × Cf × Int × Int × Int × Rr × Rr × Rd) :=
  (optK (S.rmchange_p P0.w P0.g P0.lo P0.len P0.nw P0.ov P0.r P1.w P1.g P1.lo P1.len P1.nw P1.ov P1.r d) fun o2 =>
   bif !decide (o2.1 = 0) then
   some (o2.1, c, si, ms, la, o2.2.1, o2.2.2, Q)
 else
   some (0, d, si, if S.rcmost d < ms then S.rcmost d else ms, la, o2.2.1, o2.2.2, (⟨Prod.fst (Prod.snd (S.rdchange Q.r Q.lo Q.len Q.sp d.delay)), Prod.fst (Prod.snd (Prod.snd (S.rdchange Q.r Q.lo Q.len Q.sp d.delay))), Prod.fst (Prod.snd (Prod.snd (Prod.snd (S.rdchange Q.r Q.lo Q.len Q.sp d.delay)))), Prod.snd (Prod.snd (Prod.snd (Prod.snd (S.rdchange Q.r Q.lo Q.len Q.sp d.delay))))⟩ : Rd)))
theorem S.rdcchange_v {R : Type} (c : Cf) (si ms la : Int) (P0 : Rr) (P1 : Rr) (Q : Rd) (d : Cf) (k : AVal → List Blk → Option R) : S.rdcchange_L c si ms la P0 P1 Q d k = oK (S.rdcchange_gk c si ms la P0 P1 Q d k) (S.rdcchange c si ms la P0 P1 Q d) :=
  (show S.rdcchange_L c si ms la P0 P1 Q d k =
  ((optK (S.rmchange_p P0.w P0.g P0.lo P0.len P0.nw P0.ov P0.r P1.w P1.g P1.lo P1.len P1.nw P1.ov P1.r d) fun o2 =>
   bif !decide (o2.1 = 0) then
   (S.rdcchange_gk c si ms la P0 P1 Q d k) (o2.1, c, si, ms, la, o2.2.1, o2.2.2, Q)
 else
   (S.rdcchange_gk c si ms la P0 P1 Q d k) (0, d, si, if S.rcmost d < ms then S.rcmost d else ms, la, o2.2.1, o2.2.2, (⟨Prod.fst (Prod.snd (S.rdchange Q.r Q.lo Q.len Q.sp d.delay)), Prod.fst (Prod.snd (Prod.snd (S.rdchange Q.r Q.lo Q.len Q.sp d.delay))), Prod.fst (Prod.snd (Prod.snd (Prod.snd (S.rdchange Q.r Q.lo Q.len Q.sp d.delay)))), Prod.snd (Prod.snd (Prod.snd (Prod.snd (S.rdchange Q.r Q.lo Q.len Q.sp d.delay))))⟩ : Rd)))) from by kernel_rfl).trans (opt_lift fun o2 => (bif_lift (f := (oK (S.rdcchange_gk c si ms la P0 P1 Q d k))) rfl rfl))
noncomputable def H18 : Hnd := fun R args σ k => match args with
  | [.ptr 0 0 0, .agg [.int .i64 target_, .int .i64 util_, .int .i64 stable_, .int .i64 panic_, .int .i64 grain_, .int .i64 threshold_, .int .i64 up_, .int .i64 down_, .int .i64 min_, .int .i64 max_, .int .i64 initial_, .int .i64 grace_, .int .i64 delay_, .int .i64 burst_, .int .i64 limit_, .int .i64 queue_, .int .i64 timeout_, .int .i64 ready_, .int .i64 subset_, .int .i64 sample_]] => (match rdRDec σ with | some (c, si, ms, la, P0, P1, Q) => oK (fun v : Int × Cf × Int × Int × Int × Rr × Rr × Rd => k (.int .i64 v.1) [(.var (cfA v.2.1 ++ [(.ptr 8 (0) 0), (.int .i64 v.2.2.1), (.int .i64 v.2.2.2.1), (.ptr 13 (0) 0), (.int .i64 v.2.2.2.2.1)])), .dead, .dead, .dead, .dead, .dead, .dead, .dead, (.var [(.ptr 9 (0) 0), (.ptr 11 (0) 0)]), (.var [(.int .i64 (v.2.2.2.2.2.1.w)), (.int .i64 (v.2.2.2.2.2.1.g)), (.slice 2 10 (v.2.2.2.2.2.1.lo) (v.2.2.2.2.2.1.len) none), (.int .i64 (v.2.2.2.2.2.1.nw)), (.bool (v.2.2.2.2.2.1.ov))]), (.rows (Cd.pair (Cd.int .i64) (Cd.int .i64)) (v.2.2.2.2.2.1.r) false), (.var [(.int .i64 (v.2.2.2.2.2.2.1.w)), (.int .i64 (v.2.2.2.2.2.2.1.g)), (.slice 2 12 (v.2.2.2.2.2.2.1.lo) (v.2.2.2.2.2.2.1.len) none), (.int .i64 (v.2.2.2.2.2.2.1.nw)), (.bool (v.2.2.2.2.2.2.1.ov))]), (.rows (Cd.pair (Cd.int .i64) (Cd.int .i64)) (v.2.2.2.2.2.2.1.r) false), (.var [(.int .i64 (v.2.2.2.2.2.2.2.sp)), (.slice 2 14 (v.2.2.2.2.2.2.2.lo) (v.2.2.2.2.2.2.2.len) none)]), (.rows (Cd.pair (Cd.int .i64) (Cd.int .i64)) (v.2.2.2.2.2.2.2.r) false)]) (S.rdcchange c si ms la P0 P1 Q ⟨target_, util_, stable_, panic_, grain_, threshold_, up_, down_, min_, max_, initial_, grace_, delay_, burst_, limit_, queue_, timeout_, ready_, subset_, sample_⟩) | none => none)
  | _ => none
theorem H18_ok : HndOk Tryz.prog 18 H18 := hnd_ok tis tisOk mixOk G20_ok F18 Tryz.func18 rfl (by
  intro R args σ k r h
  unfold H18 at h
  split at h
  · rename_i target_ util_ stable_ panic_ grain_ threshold_ up_ down_ min_ max_ initial_ grace_ delay_ burst_ limit_ queue_ timeout_ ready_ subset_ sample_; cases hd : rdRDec σ with
    | none => simp only [hd] at h; cases h
    | some q0 =>
      obtain ⟨c, si, ms, la, P0, P1, Q⟩ := q0
      simp only [hd] at h
      have e := rdRDec_spec hd; subst e
      exact ⟨0, (S.rdcchange_v c si ms la P0 P1 Q ⟨target_, util_, stable_, panic_, grain_, threshold_, up_, down_, min_, max_, initial_, grace_, delay_, burst_, limit_, queue_, timeout_, ready_, subset_, sample_⟩ _).trans h⟩
  · cases h)
noncomputable def G18 : Env := Env.add 18 H18 G20
theorem G18_ok : EnvOk Tryz.prog G18 := envAdd_ok H18_ok G20_ok
end Go.Proofs.YtdgipcjigbagfaaGreat.AB
