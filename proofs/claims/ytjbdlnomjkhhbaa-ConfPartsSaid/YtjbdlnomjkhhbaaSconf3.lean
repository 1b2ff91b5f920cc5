/- The functions of layer 3, as plain functions. -/
import Derived.Test.YtjbdlnomjkhhbaaSrconf
namespace Go.Proofs.Ytjbdlnomjkhhbaa.AB
set_option linter.unusedVariables false

/-! spinnakerref1.Default -/
def F49 : FCfg := ⟨keepAt [(0, [0]), (1, [0])], loopAt [], []⟩
theorem S.dflt_k {R : Type}  (k : AVal → List Blk → Option R) : fnEval tis F49 0 G37 Try.f49 [] [] k =
  (k (.agg [.int .i64 10000, .int .i64 700, .int .i64 60, .int .i64 6, .int .i64 1, .int .i64 2000, .int .i64 10000, .int .i64 2000, .int .i64 0, .int .i64 0, .int .i64 1, .int .i64 30, .int .i64 0, .int .i64 20000, .int .i64 10, .int .i64 100, .int .i64 60, .int .i64 3, .int .i64 0, .int .i64 0]) ([])) := by kernel_rfl
noncomputable def S.dflt  : Int × Int × Int × Int × Int × Int × Int × Int × Int × Int × Int × Int × Int × Int × Int × Int × Int × Int × Int × Int :=
  (10000, 700, 60, 6, 1, 2000, 10000, 2000, 0, 0, 1, 30, 0, 20000, 10, 100, 60, 3, 0, 0)
theorem S.dflt_v {R : Type}  (k : AVal → List Blk → Option R) : fnEval tis F49 0 G37 Try.f49 [] [] k = k (.agg [(.int .i64 (S.dflt).1), (.int .i64 (S.dflt).2.1), (.int .i64 (S.dflt).2.2.1), (.int .i64 (S.dflt).2.2.2.1), (.int .i64 (S.dflt).2.2.2.2.1), (.int .i64 (S.dflt).2.2.2.2.2.1), (.int .i64 (S.dflt).2.2.2.2.2.2.1), (.int .i64 (S.dflt).2.2.2.2.2.2.2.1), (.int .i64 (S.dflt).2.2.2.2.2.2.2.2.1), (.int .i64 (S.dflt).2.2.2.2.2.2.2.2.2.1), (.int .i64 (S.dflt).2.2.2.2.2.2.2.2.2.2.1), (.int .i64 (S.dflt).2.2.2.2.2.2.2.2.2.2.2.1), (.int .i64 (S.dflt).2.2.2.2.2.2.2.2.2.2.2.2.1), (.int .i64 (S.dflt).2.2.2.2.2.2.2.2.2.2.2.2.2.1), (.int .i64 (S.dflt).2.2.2.2.2.2.2.2.2.2.2.2.2.2.1), (.int .i64 (S.dflt).2.2.2.2.2.2.2.2.2.2.2.2.2.2.2.1), (.int .i64 (S.dflt).2.2.2.2.2.2.2.2.2.2.2.2.2.2.2.2.1), (.int .i64 (S.dflt).2.2.2.2.2.2.2.2.2.2.2.2.2.2.2.2.2.1), (.int .i64 (S.dflt).2.2.2.2.2.2.2.2.2.2.2.2.2.2.2.2.2.2.1), (.int .i64 (S.dflt).2.2.2.2.2.2.2.2.2.2.2.2.2.2.2.2.2.2.2)]) [] :=
  (S.dflt_k k).trans rfl
noncomputable def H49 : Hnd := fun R args σ k => match args, σ with
  | [], [] => k (.agg [(.int .i64 (S.dflt).1), (.int .i64 (S.dflt).2.1), (.int .i64 (S.dflt).2.2.1), (.int .i64 (S.dflt).2.2.2.1), (.int .i64 (S.dflt).2.2.2.2.1), (.int .i64 (S.dflt).2.2.2.2.2.1), (.int .i64 (S.dflt).2.2.2.2.2.2.1), (.int .i64 (S.dflt).2.2.2.2.2.2.2.1), (.int .i64 (S.dflt).2.2.2.2.2.2.2.2.1), (.int .i64 (S.dflt).2.2.2.2.2.2.2.2.2.1), (.int .i64 (S.dflt).2.2.2.2.2.2.2.2.2.2.1), (.int .i64 (S.dflt).2.2.2.2.2.2.2.2.2.2.2.1), (.int .i64 (S.dflt).2.2.2.2.2.2.2.2.2.2.2.2.1), (.int .i64 (S.dflt).2.2.2.2.2.2.2.2.2.2.2.2.2.1), (.int .i64 (S.dflt).2.2.2.2.2.2.2.2.2.2.2.2.2.2.1), (.int .i64 (S.dflt).2.2.2.2.2.2.2.2.2.2.2.2.2.2.2.1), (.int .i64 (S.dflt).2.2.2.2.2.2.2.2.2.2.2.2.2.2.2.2.1), (.int .i64 (S.dflt).2.2.2.2.2.2.2.2.2.2.2.2.2.2.2.2.2.1), (.int .i64 (S.dflt).2.2.2.2.2.2.2.2.2.2.2.2.2.2.2.2.2.2.1), (.int .i64 (S.dflt).2.2.2.2.2.2.2.2.2.2.2.2.2.2.2.2.2.2.2)]) []
  | _, _ => none
theorem H49_ok : HndOk Try.prog 49 H49 := hnd_ok tis tisOk mixOk G37_ok F49 Try.func49 rfl (by
  intro R args σ k r h
  unfold H49 at h
  split at h
  · exact ⟨0, (S.dflt_v _).trans h⟩
  · cases h)
noncomputable def G49 : Env := Env.add 49 H49 G37
theorem G49_ok : EnvOk Try.prog G49 := envAdd_ok H49_ok G37_ok

/-! conf.Default -/
def F29 : FCfg := ⟨keepAt [(0, [0]), (1, [0])], loopAt [], []⟩
theorem S.pdflt_k {R : Type}  (k : AVal → List Blk → Option R) : fnEval tis F29 0 G49 Try.f29 [] [] k =
  (k (.agg [.int .i64 10000, .int .i64 700, .int .i64 60, .int .i64 6, .int .i64 1, .int .i64 2000, .int .i64 10000, .int .i64 2000, .int .i64 0, .int .i64 0, .int .i64 1, .int .i64 30, .int .i64 0, .int .i64 20000, .int .i64 10, .int .i64 100, .int .i64 60, .int .i64 3, .int .i64 0, .int .i64 0]) ([])) := by kernel_rfl
noncomputable def S.pdflt  : Int × Int × Int × Int × Int × Int × Int × Int × Int × Int × Int × Int × Int × Int × Int × Int × Int × Int × Int × Int :=
  (10000, 700, 60, 6, 1, 2000, 10000, 2000, 0, 0, 1, 30, 0, 20000, 10, 100, 60, 3, 0, 0)
theorem S.pdflt_v {R : Type}  (k : AVal → List Blk → Option R) : fnEval tis F29 0 G49 Try.f29 [] [] k = k (.agg [(.int .i64 (S.pdflt).1), (.int .i64 (S.pdflt).2.1), (.int .i64 (S.pdflt).2.2.1), (.int .i64 (S.pdflt).2.2.2.1), (.int .i64 (S.pdflt).2.2.2.2.1), (.int .i64 (S.pdflt).2.2.2.2.2.1), (.int .i64 (S.pdflt).2.2.2.2.2.2.1), (.int .i64 (S.pdflt).2.2.2.2.2.2.2.1), (.int .i64 (S.pdflt).2.2.2.2.2.2.2.2.1), (.int .i64 (S.pdflt).2.2.2.2.2.2.2.2.2.1), (.int .i64 (S.pdflt).2.2.2.2.2.2.2.2.2.2.1), (.int .i64 (S.pdflt).2.2.2.2.2.2.2.2.2.2.2.1), (.int .i64 (S.pdflt).2.2.2.2.2.2.2.2.2.2.2.2.1), (.int .i64 (S.pdflt).2.2.2.2.2.2.2.2.2.2.2.2.2.1), (.int .i64 (S.pdflt).2.2.2.2.2.2.2.2.2.2.2.2.2.2.1), (.int .i64 (S.pdflt).2.2.2.2.2.2.2.2.2.2.2.2.2.2.2.1), (.int .i64 (S.pdflt).2.2.2.2.2.2.2.2.2.2.2.2.2.2.2.2.1), (.int .i64 (S.pdflt).2.2.2.2.2.2.2.2.2.2.2.2.2.2.2.2.2.1), (.int .i64 (S.pdflt).2.2.2.2.2.2.2.2.2.2.2.2.2.2.2.2.2.2.1), (.int .i64 (S.pdflt).2.2.2.2.2.2.2.2.2.2.2.2.2.2.2.2.2.2.2)]) [] :=
  (S.pdflt_k k).trans rfl
noncomputable def H29 : Hnd := fun R args σ k => match args, σ with
  | [], [] => k (.agg [(.int .i64 (S.pdflt).1), (.int .i64 (S.pdflt).2.1), (.int .i64 (S.pdflt).2.2.1), (.int .i64 (S.pdflt).2.2.2.1), (.int .i64 (S.pdflt).2.2.2.2.1), (.int .i64 (S.pdflt).2.2.2.2.2.1), (.int .i64 (S.pdflt).2.2.2.2.2.2.1), (.int .i64 (S.pdflt).2.2.2.2.2.2.2.1), (.int .i64 (S.pdflt).2.2.2.2.2.2.2.2.1), (.int .i64 (S.pdflt).2.2.2.2.2.2.2.2.2.1), (.int .i64 (S.pdflt).2.2.2.2.2.2.2.2.2.2.1), (.int .i64 (S.pdflt).2.2.2.2.2.2.2.2.2.2.2.1), (.int .i64 (S.pdflt).2.2.2.2.2.2.2.2.2.2.2.2.1), (.int .i64 (S.pdflt).2.2.2.2.2.2.2.2.2.2.2.2.2.1), (.int .i64 (S.pdflt).2.2.2.2.2.2.2.2.2.2.2.2.2.2.1), (.int .i64 (S.pdflt).2.2.2.2.2.2.2.2.2.2.2.2.2.2.2.1), (.int .i64 (S.pdflt).2.2.2.2.2.2.2.2.2.2.2.2.2.2.2.2.1), (.int .i64 (S.pdflt).2.2.2.2.2.2.2.2.2.2.2.2.2.2.2.2.2.1), (.int .i64 (S.pdflt).2.2.2.2.2.2.2.2.2.2.2.2.2.2.2.2.2.2.1), (.int .i64 (S.pdflt).2.2.2.2.2.2.2.2.2.2.2.2.2.2.2.2.2.2.2)]) []
  | _, _ => none
theorem H29_ok : HndOk Try.prog 29 H29 := hnd_ok tis tisOk mixOk G49_ok F29 Try.func29 rfl (by
  intro R args σ k r h
  unfold H29 at h
  split at h
  · exact ⟨0, (S.pdflt_v _).trans h⟩
  · cases h)
noncomputable def G29 : Env := Env.add 29 H29 G49
theorem G29_ok : EnvOk Try.prog G29 := envAdd_ok H29_ok G49_ok

/-! conf.Per -/
def F35 : FCfg := ⟨keepAt [(0, [1]), (1, [3]), (2, [2])], loopAt [], []⟩
theorem S.per_k {R : Type} (c : Cf) (k : AVal → List Blk → Option R) : fnEval tis F35 0 G29 Try.f35 [.agg (cfA c)] [] k =
  ((optK (S.mmul (Cf.target c) (Cf.util c)) fun o2 =>
    k (.int .i64 (if 1 > Prod.fst o2 then 1 else Prod.fst o2)) ([]))) := by kernel_rfl
noncomputable def S.per (c : Cf) : Option (Int) :=
  (optK (S.mmul (Cf.target c) (Cf.util c)) fun o2 =>
    some (if 1 > Prod.fst o2 then 1 else Prod.fst o2))
theorem S.per_v {R : Type} (c : Cf) (k : AVal → List Blk → Option R) : fnEval tis F35 0 G29 Try.f35 [.agg (cfA c)] [] k = oK (fun v : Int => k (.int .i64 v) []) (S.per c) :=
  (S.per_k c k).trans (opt_lift fun o2 => rfl)
noncomputable def H35 : Hnd := fun R args σ k => match args, σ with
  | [.agg [.int .i64 target_, .int .i64 util_, .int .i64 stable_, .int .i64 panic_, .int .i64 grain_, .int .i64 threshold_, .int .i64 up_, .int .i64 down_, .int .i64 min_, .int .i64 max_, .int .i64 initial_, .int .i64 grace_, .int .i64 delay_, .int .i64 burst_, .int .i64 limit_, .int .i64 queue_, .int .i64 timeout_, .int .i64 ready_, .int .i64 subset_, .int .i64 sample_]], [] => oK (fun v : Int => k (.int .i64 v) []) (S.per ⟨target_, util_, stable_, panic_, grain_, threshold_, up_, down_, min_, max_, initial_, grace_, delay_, burst_, limit_, queue_, timeout_, ready_, subset_, sample_⟩)
  | _, _ => none
theorem H35_ok : HndOk Try.prog 35 H35 := hnd_ok tis tisOk mixOk G29_ok F35 Try.func35 rfl (by
  intro R args σ k r h
  unfold H35 at h
  split at h
  · rename_i target_ util_ stable_ panic_ grain_ threshold_ up_ down_ min_ max_ initial_ grace_ delay_ burst_ limit_ queue_ timeout_ ready_ subset_ sample_; exact ⟨0, (S.per_v ⟨target_, util_, stable_, panic_, grain_, threshold_, up_, down_, min_, max_, initial_, grace_, delay_, burst_, limit_, queue_, timeout_, ready_, subset_, sample_⟩ _).trans h⟩
  · cases h)
noncomputable def G35 : Env := Env.add 35 H35 G29
theorem G35_ok : EnvOk Try.prog G35 := envAdd_ok H35_ok G29_ok

/-! conf.Most -/
def F39 : FCfg := ⟨keepAt [(0, [1]), (1, [1, 5]), (2, [2]), (3, [2])], loopAt [], []⟩
theorem S.cmost_k {R : Type} (c : Cf) (k : AVal → List Blk → Option R) : fnEval tis F39 0 G35 Try.f39 [.agg (cfA c)] [] k =
  (bif decide (Cf.max c = 0) then
    k (.int .i64 100) ([])
  else
    k (.int .i64 (Cf.max c)) ([])) := by kernel_rfl
noncomputable def S.cmost (c : Cf) : Int :=
  bif decide (Cf.max c = 0) then
    (100)
  else
    (Cf.max c)
theorem S.cmost_v {R : Type} (c : Cf) (k : AVal → List Blk → Option R) : fnEval tis F39 0 G35 Try.f39 [.agg (cfA c)] [] k = k (.int .i64 (S.cmost c)) [] :=
  (S.cmost_k c k).trans (bif_lift (f := (fun v : Int => k (.int .i64 v) [])) rfl rfl)
noncomputable def H39 : Hnd := fun R args σ k => match args, σ with
  | [.agg [.int .i64 target_, .int .i64 util_, .int .i64 stable_, .int .i64 panic_, .int .i64 grain_, .int .i64 threshold_, .int .i64 up_, .int .i64 down_, .int .i64 min_, .int .i64 max_, .int .i64 initial_, .int .i64 grace_, .int .i64 delay_, .int .i64 burst_, .int .i64 limit_, .int .i64 queue_, .int .i64 timeout_, .int .i64 ready_, .int .i64 subset_, .int .i64 sample_]], [] => k (.int .i64 (S.cmost ⟨target_, util_, stable_, panic_, grain_, threshold_, up_, down_, min_, max_, initial_, grace_, delay_, burst_, limit_, queue_, timeout_, ready_, subset_, sample_⟩)) []
  | _, _ => none
theorem H39_ok : HndOk Try.prog 39 H39 := hnd_ok tis tisOk mixOk G35_ok F39 Try.func39 rfl (by
  intro R args σ k r h
  unfold H39 at h
  split at h
  · rename_i target_ util_ stable_ panic_ grain_ threshold_ up_ down_ min_ max_ initial_ grace_ delay_ burst_ limit_ queue_ timeout_ ready_ subset_ sample_; exact ⟨0, (S.cmost_v ⟨target_, util_, stable_, panic_, grain_, threshold_, up_, down_, min_, max_, initial_, grace_, delay_, burst_, limit_, queue_, timeout_, ready_, subset_, sample_⟩ _).trans h⟩
  · cases h)
noncomputable def G39 : Env := Env.add 39 H39 G35
theorem G39_ok : EnvOk Try.prog G39 := envAdd_ok H39_ok G35_ok

/-! spinnakerref1.Per -/
def F38 : FCfg := ⟨keepAt [(0, [1]), (1, [3]), (2, [2])], loopAt [], []⟩
theorem S.rper_k {R : Type} (c : Cf) (k : AVal → List Blk → Option R) : fnEval tis F38 0 G39 Try.f38 [.agg (cfA c)] [] k =
  (k (.int .i64 (if 1 > Prod.fst (S.rmul (Cf.target c) (Cf.util c)) then 1 else Prod.fst (S.rmul (Cf.target c) (Cf.util c)))) ([])) := by kernel_rfl
noncomputable def S.rper (c : Cf) : Int :=
  (if 1 > Prod.fst (S.rmul (Cf.target c) (Cf.util c)) then 1 else Prod.fst (S.rmul (Cf.target c) (Cf.util c)))
theorem S.rper_v {R : Type} (c : Cf) (k : AVal → List Blk → Option R) : fnEval tis F38 0 G39 Try.f38 [.agg (cfA c)] [] k = k (.int .i64 (S.rper c)) [] :=
  (S.rper_k c k).trans rfl
noncomputable def H38 : Hnd := fun R args σ k => match args, σ with
  | [.agg [.int .i64 target_, .int .i64 util_, .int .i64 stable_, .int .i64 panic_, .int .i64 grain_, .int .i64 threshold_, .int .i64 up_, .int .i64 down_, .int .i64 min_, .int .i64 max_, .int .i64 initial_, .int .i64 grace_, .int .i64 delay_, .int .i64 burst_, .int .i64 limit_, .int .i64 queue_, .int .i64 timeout_, .int .i64 ready_, .int .i64 subset_, .int .i64 sample_]], [] => k (.int .i64 (S.rper ⟨target_, util_, stable_, panic_, grain_, threshold_, up_, down_, min_, max_, initial_, grace_, delay_, burst_, limit_, queue_, timeout_, ready_, subset_, sample_⟩)) []
  | _, _ => none
theorem H38_ok : HndOk Try.prog 38 H38 := hnd_ok tis tisOk mixOk G39_ok F38 Try.func38 rfl (by
  intro R args σ k r h
  unfold H38 at h
  split at h
  · rename_i target_ util_ stable_ panic_ grain_ threshold_ up_ down_ min_ max_ initial_ grace_ delay_ burst_ limit_ queue_ timeout_ ready_ subset_ sample_; exact ⟨0, (S.rper_v ⟨target_, util_, stable_, panic_, grain_, threshold_, up_, down_, min_, max_, initial_, grace_, delay_, burst_, limit_, queue_, timeout_, ready_, subset_, sample_⟩ _).trans h⟩
  · cases h)
noncomputable def G38 : Env := Env.add 38 H38 G39
theorem G38_ok : EnvOk Try.prog G38 := envAdd_ok H38_ok G39_ok

/-! spinnakerref1.Most -/
def F40 : FCfg := ⟨keepAt [(0, [1]), (1, [1, 5]), (2, [2]), (3, [2])], loopAt [], []⟩
theorem S.rcmost_k {R : Type} (c : Cf) (k : AVal → List Blk → Option R) : fnEval tis F40 0 G38 Try.f40 [.agg (cfA c)] [] k =
  (bif decide (Cf.max c = 0) then
    k (.int .i64 100) ([])
  else
    k (.int .i64 (Cf.max c)) ([])) := by kernel_rfl
noncomputable def S.rcmost (c : Cf) : Int :=
  bif decide (Cf.max c = 0) then
    (100)
  else
    (Cf.max c)
theorem S.rcmost_v {R : Type} (c : Cf) (k : AVal → List Blk → Option R) : fnEval tis F40 0 G38 Try.f40 [.agg (cfA c)] [] k = k (.int .i64 (S.rcmost c)) [] :=
  (S.rcmost_k c k).trans (bif_lift (f := (fun v : Int => k (.int .i64 v) [])) rfl rfl)
noncomputable def H40 : Hnd := fun R args σ k => match args, σ with
  | [.agg [.int .i64 target_, .int .i64 util_, .int .i64 stable_, .int .i64 panic_, .int .i64 grain_, .int .i64 threshold_, .int .i64 up_, .int .i64 down_, .int .i64 min_, .int .i64 max_, .int .i64 initial_, .int .i64 grace_, .int .i64 delay_, .int .i64 burst_, .int .i64 limit_, .int .i64 queue_, .int .i64 timeout_, .int .i64 ready_, .int .i64 subset_, .int .i64 sample_]], [] => k (.int .i64 (S.rcmost ⟨target_, util_, stable_, panic_, grain_, threshold_, up_, down_, min_, max_, initial_, grace_, delay_, burst_, limit_, queue_, timeout_, ready_, subset_, sample_⟩)) []
  | _, _ => none
theorem H40_ok : HndOk Try.prog 40 H40 := hnd_ok tis tisOk mixOk G38_ok F40 Try.func40 rfl (by
  intro R args σ k r h
  unfold H40 at h
  split at h
  · rename_i target_ util_ stable_ panic_ grain_ threshold_ up_ down_ min_ max_ initial_ grace_ delay_ burst_ limit_ queue_ timeout_ ready_ subset_ sample_; exact ⟨0, (S.rcmost_v ⟨target_, util_, stable_, panic_, grain_, threshold_, up_, down_, min_, max_, initial_, grace_, delay_, burst_, limit_, queue_, timeout_, ready_, subset_, sample_⟩ _).trans h⟩
  · cases h)
noncomputable def G40 : Env := Env.add 40 H40 G38
theorem G40_ok : EnvOk Try.prog G40 := envAdd_ok H40_ok G38_ok

/-! spinnakerref1.Made -/
def F31 : FCfg := ⟨keepAt [(0, [0, 2]), (1, [2])], loopAt [], []⟩
theorem S.made_k {R : Type} (l : List Int) (k : AVal → List Blk → Option R) : fnEval tis F31 0 G40 Try.f31 [.slice 1 0 0 20 none] [.rows (.int .i64) l false] k =
  ((optK (l[0]?) fun o2 =>
    (optK (l[1]?) fun o3 =>
      (optK (l[2]?) fun o4 =>
        (optK (l[3]?) fun o5 =>
          (optK (l[4]?) fun o6 =>
            (optK (l[5]?) fun o7 =>
              (optK (l[6]?) fun o8 =>
                (optK (l[7]?) fun o9 =>
                  (optK (l[8]?) fun o10 =>
                    (optK (l[9]?) fun o11 =>
                      (optK (l[10]?) fun o12 =>
                        (optK (l[11]?) fun o13 =>
                          (optK (l[12]?) fun o14 =>
                            (optK (l[13]?) fun o15 =>
                              (optK (l[14]?) fun o16 =>
                                (optK (l[15]?) fun o17 =>
                                  (optK (l[16]?) fun o18 =>
                                    (optK (l[17]?) fun o19 =>
                                      (optK (l[18]?) fun o20 =>
                                        (optK (l[19]?) fun o21 =>
                                          k (.agg [.int .i64 o2, .int .i64 o3, .int .i64 o4, .int .i64 o5, .int .i64 o6, .int .i64 o7, .int .i64 o8, .int .i64 o9, .int .i64 o10, .int .i64 o11, .int .i64 o12, .int .i64 o13, .int .i64 o14, .int .i64 o15, .int .i64 o16, .int .i64 o17, .int .i64 o18, .int .i64 o19, .int .i64 o20, .int .i64 o21]) ([.rows (Cd.int .i64) l false])))))))))))))))))))))) := by kernel_rfl
noncomputable def S.made (l : List Int) : Option (Int × Int × Int × Int × Int × Int × Int × Int × Int × Int × Int × Int × Int × Int × Int × Int × Int × Int × Int × Int) :=
  (optK (l[0]?) fun o2 =>
    (optK (l[1]?) fun o3 =>
      (optK (l[2]?) fun o4 =>
        (optK (l[3]?) fun o5 =>
          (optK (l[4]?) fun o6 =>
            (optK (l[5]?) fun o7 =>
              (optK (l[6]?) fun o8 =>
                (optK (l[7]?) fun o9 =>
                  (optK (l[8]?) fun o10 =>
                    (optK (l[9]?) fun o11 =>
                      (optK (l[10]?) fun o12 =>
                        (optK (l[11]?) fun o13 =>
                          (optK (l[12]?) fun o14 =>
                            (optK (l[13]?) fun o15 =>
                              (optK (l[14]?) fun o16 =>
                                (optK (l[15]?) fun o17 =>
                                  (optK (l[16]?) fun o18 =>
                                    (optK (l[17]?) fun o19 =>
                                      (optK (l[18]?) fun o20 =>
                                        (optK (l[19]?) fun o21 =>
                                          some (o2, o3, o4, o5, o6, o7, o8, o9, o10, o11, o12, o13, o14, o15, o16, o17, o18, o19, o20, o21)))))))))))))))))))))
theorem S.made_v {R : Type} (l : List Int) (k : AVal → List Blk → Option R) : fnEval tis F31 0 G40 Try.f31 [.slice 1 0 0 20 none] [.rows (.int .i64) l false] k = oK (fun v : Int × Int × Int × Int × Int × Int × Int × Int × Int × Int × Int × Int × Int × Int × Int × Int × Int × Int × Int × Int => k (.agg [(.int .i64 v.1), (.int .i64 v.2.1), (.int .i64 v.2.2.1), (.int .i64 v.2.2.2.1), (.int .i64 v.2.2.2.2.1), (.int .i64 v.2.2.2.2.2.1), (.int .i64 v.2.2.2.2.2.2.1), (.int .i64 v.2.2.2.2.2.2.2.1), (.int .i64 v.2.2.2.2.2.2.2.2.1), (.int .i64 v.2.2.2.2.2.2.2.2.2.1), (.int .i64 v.2.2.2.2.2.2.2.2.2.2.1), (.int .i64 v.2.2.2.2.2.2.2.2.2.2.2.1), (.int .i64 v.2.2.2.2.2.2.2.2.2.2.2.2.1), (.int .i64 v.2.2.2.2.2.2.2.2.2.2.2.2.2.1), (.int .i64 v.2.2.2.2.2.2.2.2.2.2.2.2.2.2.1), (.int .i64 v.2.2.2.2.2.2.2.2.2.2.2.2.2.2.2.1), (.int .i64 v.2.2.2.2.2.2.2.2.2.2.2.2.2.2.2.2.1), (.int .i64 v.2.2.2.2.2.2.2.2.2.2.2.2.2.2.2.2.2.1), (.int .i64 v.2.2.2.2.2.2.2.2.2.2.2.2.2.2.2.2.2.2.1), (.int .i64 v.2.2.2.2.2.2.2.2.2.2.2.2.2.2.2.2.2.2.2)]) [(.rows (Cd.int .i64) l false)]) (S.made l) :=
  (S.made_k l k).trans (opt_lift fun o2 => (opt_lift fun o3 => (opt_lift fun o4 => (opt_lift fun o5 => (opt_lift fun o6 => (opt_lift fun o7 => (opt_lift fun o8 => (opt_lift fun o9 => (opt_lift fun o10 => (opt_lift fun o11 => (opt_lift fun o12 => (opt_lift fun o13 => (opt_lift fun o14 => (opt_lift fun o15 => (opt_lift fun o16 => (opt_lift fun o17 => (opt_lift fun o18 => (opt_lift fun o19 => (opt_lift fun o20 => (opt_lift fun o21 => rfl))))))))))))))))))))
noncomputable def H31 : Hnd := fun R args σ k => match args, σ with
  | [.slice 1 0 0 20 none], [.rows (.int .i64) l false] => oK (fun v : Int × Int × Int × Int × Int × Int × Int × Int × Int × Int × Int × Int × Int × Int × Int × Int × Int × Int × Int × Int => k (.agg [(.int .i64 v.1), (.int .i64 v.2.1), (.int .i64 v.2.2.1), (.int .i64 v.2.2.2.1), (.int .i64 v.2.2.2.2.1), (.int .i64 v.2.2.2.2.2.1), (.int .i64 v.2.2.2.2.2.2.1), (.int .i64 v.2.2.2.2.2.2.2.1), (.int .i64 v.2.2.2.2.2.2.2.2.1), (.int .i64 v.2.2.2.2.2.2.2.2.2.1), (.int .i64 v.2.2.2.2.2.2.2.2.2.2.1), (.int .i64 v.2.2.2.2.2.2.2.2.2.2.2.1), (.int .i64 v.2.2.2.2.2.2.2.2.2.2.2.2.1), (.int .i64 v.2.2.2.2.2.2.2.2.2.2.2.2.2.1), (.int .i64 v.2.2.2.2.2.2.2.2.2.2.2.2.2.2.1), (.int .i64 v.2.2.2.2.2.2.2.2.2.2.2.2.2.2.2.1), (.int .i64 v.2.2.2.2.2.2.2.2.2.2.2.2.2.2.2.2.1), (.int .i64 v.2.2.2.2.2.2.2.2.2.2.2.2.2.2.2.2.2.1), (.int .i64 v.2.2.2.2.2.2.2.2.2.2.2.2.2.2.2.2.2.2.1), (.int .i64 v.2.2.2.2.2.2.2.2.2.2.2.2.2.2.2.2.2.2.2)]) [(.rows (Cd.int .i64) l false)]) (S.made l)
  | _, _ => none
theorem H31_ok : HndOk Try.prog 31 H31 := hnd_ok tis tisOk mixOk G40_ok F31 Try.func31 rfl (by
  intro R args σ k r h
  unfold H31 at h
  split at h
  · rename_i l; exact ⟨0, (S.made_v l _).trans h⟩
  · cases h)
noncomputable def G31 : Env := Env.add 31 H31 G40
theorem G31_ok : EnvOk Try.prog G31 := envAdd_ok H31_ok G40_ok

/-! spinnakerlaw3.told -/
def F32 : FCfg := ⟨keepAt [(0, []), (1, [1]), (2, [1, 2]), (3, [1, 2]), (4, [1, 2, 3]), (5, [1, 2, 3]), (6, [0])], loopAt [], []⟩
theorem S.told3_k {R : Type}  (k : AVal → List Blk → Option R) : fnEval tis F32 0 G31 Try.f32 [] [] k =
  (k (.bool true) ([])) := by kernel_rfl
noncomputable def S.told3  : Bool :=
  (true)
theorem S.told3_v {R : Type}  (k : AVal → List Blk → Option R) : fnEval tis F32 0 G31 Try.f32 [] [] k = k (.bool (S.told3)) [] :=
  (S.told3_k k).trans rfl
noncomputable def H32 : Hnd := fun R args σ k => match args, σ with
  | [], [] => k (.bool (S.told3)) []
  | _, _ => none
theorem H32_ok : HndOk Try.prog 32 H32 := hnd_ok tis tisOk mixOk G31_ok F32 Try.func32 rfl (by
  intro R args σ k r h
  unfold H32 at h
  split at h
  · exact ⟨0, (S.told3_v _).trans h⟩
  · cases h)
noncomputable def G32 : Env := Env.add 32 H32 G31
theorem G32_ok : EnvOk Try.prog G32 := envAdd_ok H32_ok G31_ok
end Go.Proofs.Ytjbdlnomjkhhbaa.AB
