/- Regions, in the text's order and in any. -/
import Derived.Test.YtdgipcjigbagfaaGreatFwQ
namespace Go.Proofs.YtdgipcjigbagfaaGreat.AB
set_option linter.unusedSimpArgs false
set_option linter.unusedVariables false
variable {P : Program} {ti : Nat → TyI}

/-- operands of an operation, seen by name -/
def namedBy (ops : List Oper) (o : Oper) (t : Nat) : Prop := (.tmp t) ∈ o.op.operands.toList ∨ ∃ g want, o.guard = some (g, want) ∧ dstOf ops g = some t

/-- one operation, wherever its operands and memory stand as the trace has them -/
theorem wpOp_of {nt : Nat} {ops : List Oper} {o : Oper} {st st1 : St} {tr : Tr} (hs : StepOf P nt ops o st tr st1) {j : Nat} (hj : ops[j]? = some o) {B : Base} {φ : Map} {ψ : Nat → List Nat} {G G' : Nat → Blk} {n : Nat} {tmv : Nat → AVal} {a : Act} {w : World}
    (hg : GI B φ ψ G w) (htm : ∀ t, VRel φ (tmv t) (a.tmps.getD t undef)) (hn : ∀ t, namedBy ops o t → tmv t = getT st.tm t) (hsz : a.tmps.size = nt) (hm : B.m ≤ n)
    (hfr : ∀ b, n ≤ b → b < n + tr.nn → φ b = none ∧ G b = .dead) (hp : ∀ p, tr.exec = true → PStep P p (getB st.σ) st.σ.length tr.v (getB st1.σ) tr.rd tr.wr tr.nn → PStep P p G n tr.v G' tr.rd tr.wr tr.nn) (hG' : tr.exec = false → G' = G)
    {K : Act → World → Prop} {Q : Exit → Act → World → Prop}
    (hk : ∀ φ' ψ' w' cv, GI B φ' ψ' G' w' → Ext φ φ' → (∀ b, φ' b ≠ none → φ b ≠ none ∨ (n ≤ b ∧ b < n + tr.nn)) → VRel φ' tr.v cv → K (a.put o.dst cv) w') : wpOp P ops.toArray Q j K a w := by
  have hw : Region.wanted o (yielded ops.toArray a.tmps) = tr.exec := by
    refine wanted_of (φ := φ) (tmv := fun t => getT st.tm t) (fun t g want h1 h2 => ?_) hs.guard
    rw [← hn t (.inr ⟨g, want, h1, h2⟩)]; exact htm t
  have hj' : ops.toArray[j]? = some o := by simpa using hj
  unfold wpOp
  simp only [hj', hw]
  cases hex : tr.exec with
  | true =>
    simp only [if_true]
    obtain ⟨p, himpl, hps⟩ := hs.yes hex
    refine .inl (himpl B φ ψ G w a n tr.v G' tr.rd tr.wr tr.nn (fun x hx => ?_) hg hfr hm (hp p hex hps) K Q hk)
    cases x with
    | tmp t =>
      simp only [evalA, Act.eval]
      rw [← hn t (.inl hx)]; exact htm t
    | const v => exact constA_rel φ v
    | global g => simp [evalA, VRel]
    | func f => simp only [evalA, Act.eval, VRel, VRels]; exact ⟨[], rfl, rfl⟩
  | false =>
    simp only [Bool.false_eq_true, if_false]
    obtain ⟨hv, _, _, _, hnn⟩ := hs.no hex
    rw [hG' hex] at hk
    exact hk φ ψ w undef hg (Ext.refl φ) (fun b hb => .inl hb) (by rw [hv]; simp [VRel, VRels, undef])

theorem tm_put {nt : Nat} {ops : List Oper} {o : Oper} {st st1 : St} {tr : Tr} (hs : StepOf P nt ops o st tr st1) {φ φ' : Map} {a : Act} {cv : Value} (hsz : a.tmps.size = nt) (he : Ext φ φ') (hcv : VRel φ' tr.v cv)
    {tmv : Nat → AVal} (htm : ∀ t, VRel φ (tmv t) (a.tmps.getD t undef)) (t : Nat) : VRel φ' (if o.dst = some t then tr.v else tmv t) ((a.put o.dst cv).tmps.getD t undef) := by
  rw [put_getD (fun d hd => by rw [hsz]; exact dstOk_spec hs.dst d hd)]
  split
  · exact hcv
  · exact VRel.ext he _ (htm t)

/-! the text's order -/
theorem runs_text {nt : Nat} {ops : List Oper} {B : Base} {Q : Exit → Act → World → Prop} {st' : St} (hQ : ∀ a w, StRel B nt st' a w → Q .normal a w) :
    ∀ (rest : List Oper) (st : St) (l : List (Oper × St × Tr × St)) (pre : List Oper), ops = pre ++ rest → Runs P nt ops rest st l st' → ∀ a w, StRel B nt st a w → wpOps P ops.toArray Q (List.range' pre.length rest.length) a w
  | [], st, l, pre, _, hr, a, w, hst => by
    cases hr
    simp only [List.length_nil, List.range'_zero, wpOps]
    exact hQ a w hst
  | o :: rest, st, l, pre, hops, hr, a, w, hst => by
    cases hr with
    | cons _ _ _ tr st1 l st' hs hr =>
    obtain ⟨⟨φ, ψ, hg, hdom, htm⟩, hsz, hd, hlen⟩ := hst
    simp only [List.length_cons, List.range'_succ, wpOps_cons]
    refine wpOp_of hs (j := pre.length) (by rw [hops]; simp) hg htm (fun t _ => rfl) hsz hlen (fun b h1 h2 => ?_) (fun p _ h => h) (fun hex => ?_) fun φ' ψ' w' cv hg' he hb hcv => ?_
    · refine ⟨?_, getB_past _ _ h1⟩
      cases h : φ b with
      | none => rfl
      | some L => have := hdom b (by rw [h]; simp); omega
    · rw [(hs.no hex).2.1]
    · have := runs_text hQ rest st1 l (pre ++ [o]) (by rw [hops]; simp) hr (a.put o.dst cv) w' ⟨⟨φ', ψ', hg', fun b h => ?_, fun t => ?_⟩, by rw [put_size]; exact hsz, by rw [put_defers]; exact hd, by rw [hs.len]; omega⟩
      · simpa using this
      · rw [hs.len]
        rcases hb b h with h | h
        · have := hdom b h; omega
        · exact h.2
      · rw [hs.tm]; exact tm_put hs hsz he hcv htm t

/-! any order -/
theorem PStep.frame {p : Prim} {G G' : Nat → Blk} {n : Nat} {v : AVal} {rd wr : List Nat} {nn : Nat} (h : PStep P p G n v G' rd wr nn) (hl : ∀ b, (G b).live = true → b < n) :
    (∀ b, b ∉ wr → G' b = G b) ∧ (∀ b, n ≤ b → b < n + nn → b ∈ wr) ∧ (∀ b ∈ wr, b < n + nn) ∧ (∀ b, b ∈ wr → b < n → (G b).wr = true) := by
  cases h with
  | ret => exact ⟨fun _ _ => rfl, fun b h1 h2 => by omega, by simp, by simp⟩
  | rd => exact ⟨fun _ _ => rfl, fun b h1 h2 => by omega, by simp, by simp⟩
  | wr b i j cs G n old blk' h1 h2 h3 h4 =>
    have := hl b (wr_live h3)
    exact ⟨fun c hc => by simp at hc; simp [upd, hc], fun c h1 h2 => by omega, fun c hc => by simp at hc; subst hc; omega, fun c hc _ => by simp at hc; subst hc; exact h3⟩
  | new => exact ⟨fun b hb => by simp at hb; simp [upd, hb], fun b h1 h2 => by simp; omega, fun b hb => by simp at hb; omega, fun b hb h => by simp at hb; omega⟩
  | app => exact ⟨fun b hb => by simp at hb; simp [upd, hb], fun b h1 h2 => by simp; omega, fun b hb => by simp at hb; omega, fun b hb h => by simp at hb; omega⟩
  | appk c b lo len y G n l l2 h1 h2 h3 h4 =>
    refine ⟨fun b hb => by simp at hb; simp [upd, hb], fun b h1 h2 => by simp; omega, fun c hc => by simp at hc; omega, fun c hc hn => ?_⟩
    simp at hc
    rcases hc with rfl | rfl
    · exact h3
    · omega
  | fill b lo m cs c l x G n h1 h2 h3 =>
    have := hl b (by rw [h1]; rfl)
    exact ⟨fun c hc => by simp at hc; simp [upd, hc], fun c h1 h2 => by omega, fun c hc => by simp at hc; subst hc; omega, fun c' hc _ => by simp at hc; subst hc; rw [h1]; rfl⟩
  | rdS => exact ⟨fun _ _ => rfl, fun b h1 h2 => by omega, by simp, by simp⟩
  | rdF => exact ⟨fun _ _ => rfl, fun b h1 h2 => by omega, by simp, by simp⟩
  | wrS b i cs G n t c l fm x h1 h2 h3 =>
    have := hl b (by rw [h1]; rfl)
    exact ⟨fun c hc => by simp at hc; simp [upd, hc], fun c h1 h2 => by omega, fun c hc => by simp at hc; subst hc; omega, fun c' hc _ => by simp at hc; subst hc; rw [h1]; rfl⟩
  | fillS b lo m cs G n t c l fm h1 h2 h3 =>
    have := hl b (by rw [h1]; rfl)
    exact ⟨fun c hc => by simp at hc; simp [upd, hc], fun c h1 h2 => by omega, fun c hc => by simp at hc; subst hc; omega, fun c' hc _ => by simp at hc; subst hc; rw [h1]; rfl⟩
  | wrF b i j cs G n t c l fm y x h1 h2 h3 h4 =>
    have := hl b (by rw [h1]; rfl)
    exact ⟨fun c hc => by simp at hc; simp [upd, hc], fun c h1 h2 => by omega, fun c hc => by simp at hc; subst hc; omega, fun c' hc _ => by simp at hc; subst hc; rw [h1]; rfl⟩
  | famNew t c b G n cs x h1 h2 h3 =>
    refine ⟨fun b hb => by simp at hb; simp [upd, hb], fun b h1 h2 => by simp; omega, fun c hc => by simp at hc; omega, fun c hc hn => ?_⟩
    simp at hc
    rcases hc with rfl | rfl
    · rw [h1]; rfl
    · omega
  | appF0 c kill b2 lo2 m G n t d l2 f2 h1 h2 =>
    refine ⟨fun b hb => by simp at hb; simp [upd, hb], fun b h1 h2 => by simp; omega, fun c hc => by simp at hc; omega, fun c hc hn => ?_⟩
    simp at hc
    rcases hc with rfl | rfl
    · rw [h1]; rfl
    · omega
  | appF c kill b lo len b2 lo2 m G n t d l f l2 f2 h1 h2 h3 h4 h5 =>
    refine ⟨fun b hb => by simp at hb; simp [upd, hb], fun b h1 h2 => by simp; omega, fun c hc => by simp at hc; omega, fun c hc hn => ?_⟩
    simp at hc
    rcases hc with rfl | rfl | rfl
    · rw [h1]; rfl
    · rw [h2]; rfl
    · omega
  | call f args G n ids v' σ' W hn hlt hcall hac hW hkeep =>
    refine ⟨fun b hb => ?_, fun b h1 h2 => ?_, fun b hb => ?_, fun b hb hn' => ?_⟩
    · simp only [List.mem_append, List.mem_map, List.mem_range] at hb
      by_cases hi : b ∈ rd
      · exact hkeep b hi fun h => hb (.inl h)
      · have hx : idx b rd 0 = none := by
          cases h : idx b rd 0 with
          | none => rfl
          | some j => exact absurd (List.mem_of_getElem? (idx_get h)) hi
        simp only [callG, hx]
        rw [if_neg]
        intro h
        exact hb (.inr ⟨b - n, by omega, by omega⟩)
    · simp only [List.mem_append, List.mem_map, List.mem_range]
      exact .inr ⟨b - n, by omega, by omega⟩
    · simp only [List.mem_append, List.mem_map, List.mem_range] at hb
      rcases hb with hb | ⟨j, hj, rfl⟩
      · have := hlt b (hW b hb).1; omega
      · omega
    · simp only [List.mem_append, List.mem_map, List.mem_range] at hb
      rcases hb with hb | ⟨j, hj, rfl⟩
      · exact (hW b hb).2
      · omega

theorem rowsAre_congr {c : Cd} {G H : Nat → Blk} {x : Option (Nat × Nat × Nat)} {l : List c.El} (h : RowsAre c G x l) (hx : ∀ b ∈ idOf x, H b = G b) : RowsAre c H x l := by
  cases x with
  | none => exact h
  | some x =>
    obtain ⟨b, lo, n⟩ := x
    obtain ⟨l0, ro, h1, h2⟩ := h
    exact ⟨l0, ro, by rw [hx b (by simp [idOf])]; exact h1, h2⟩

theorem PStep.local {p : Prim} {G G' H : Nat → Blk} {n : Nat} {v : AVal} {rd wr : List Nat} {nn : Nat} (h : PStep P p G n v G' rd wr nn) (hl : ∀ b, (G b).live = true → b < n) (hH : ∀ b, b ∈ rd ∨ (b ∈ wr ∧ b < n) → H b = G b) :
    PStep P p H n v (fun b => if b ∈ wr then G' b else H b) rd wr nn := by
  have hfr := h.frame hl
  cases h with
  | ret => simpa using PStep.ret (P := P) v H n
  | rd b i f G n cs v h1 h2 =>
    have := PStep.rd (P := P) b i f H n cs v (by rw [hH b (.inl (by simp))]; exact h1) h2
    simpa using this
  | wr b i j cs G n old blk' h1 h2 h3 h4 =>
    have e := hH b (.inr ⟨by simp, hl b (wr_live h3)⟩)
    have := PStep.wr (P := P) b i j cs H n old blk' (by rw [e]; exact h1) h2 (by rw [e]; exact h3) (by rw [e]; exact h4)
    have e2 : (fun c => if c ∈ [b] then upd G b blk' c else H c) = upd H b blk' := by funext c; by_cases hc : c = b <;> simp [upd, hc]
    rw [e2]; exact this
  | new blk v G n h1 =>
    have e2 : (fun c => if c ∈ [n] then upd G n blk c else H c) = upd H n blk := by funext c; by_cases hc : c = n <;> simp [upd, hc]
    rw [e2]; exact PStep.new blk v H n h1
  | app c x y G n l l2 h1 h2 =>
    have e2 : (fun b => if b ∈ [n] then upd G n (.rows c (l ++ l2) false) b else H b) = upd H n (.rows c (l ++ l2) false) := by funext b; by_cases hc : b = n <;> simp [upd, hc]
    rw [e2]
    exact PStep.app c x y H n l l2 (rowsAre_congr h1 fun b hb => hH b (.inl (by simp [hb]))) (rowsAre_congr h2 fun b hb => hH b (.inl (by simp [hb])))
  | appk c b lo len y G n l l2 h1 h2 h3 h4 =>
    have e := hH b (.inr ⟨by simp, h4⟩)
    have e2 : (fun b' => if b' ∈ [b, n] then upd (upd G b .dead) n (.rows c (l ++ l2) false) b' else H b') = upd (upd H b .dead) n (.rows c (l ++ l2) false) := by
      funext b'
      by_cases hc : b' = n
      · simp [upd, hc]
      · by_cases hc' : b' = b <;> simp [upd, hc, hc']
    rw [e2]
    exact PStep.appk c b lo len y H n l l2 (rowsAre_congr h1 fun b' hb => by simp [idOf] at hb; subst hb; exact e) (rowsAre_congr h2 fun b' hb => hH b' (.inl hb)) (by rw [e]; exact h3) h4
  | fill b lo m cs c l x G n h1 h2 h3 =>
    have e := hH b (.inr ⟨by simp, hl b (by rw [h1]; rfl)⟩)
    have e2 : (fun b' => if b' ∈ [b] then upd G b (.rows c (l.take lo ++ fillRows x m (l.drop lo)) false) b' else H b') = upd H b (.rows c (l.take lo ++ fillRows x m (l.drop lo)) false) := by
      funext c; by_cases hc : c = b <;> simp [upd, hc]
    rw [e2]
    exact PStep.fill b lo m cs c l x H n (by rw [e]; exact h1) h2 h3
  | rdS b i f G n t c l fm x v h1 h2 h3 =>
    have := PStep.rdS (P := P) b i f H n t c l fm x v (by rw [hH b (.inl (by simp))]; exact h1) h2 h3
    simpa using this
  | rdF b i f G n t c l fm x v h1 h2 h3 =>
    have := PStep.rdF (P := P) b i f H n t c l fm x v (by rw [hH b (.inl (by simp))]; exact h1) h2 h3
    simpa using this
  | wrS b i cs G n t c l fm x h1 h2 h3 =>
    have e := hH b (.inr ⟨by simp, hl b (by rw [h1]; rfl)⟩)
    have e2 : (fun b' => if b' ∈ [b] then upd G b (.fam t c (l.set i x) fm) b' else H b') = upd H b (.fam t c (l.set i x) fm) := by
      funext c; by_cases hc : c = b <;> simp [upd, hc]
    rw [e2]
    exact PStep.wrS b i cs H n t c l fm x (by rw [e]; exact h1) h2 h3
  | fillS b lo m cs G n t c l fm h1 h2 h3 =>
    have e := hH b (.inr ⟨by simp, hl b (by rw [h1]; rfl)⟩)
    have e2 : (fun b' => if b' ∈ [b] then upd G b (.fam t c (l.take lo ++ fillRows none m (l.drop lo)) fm) b' else H b') = upd H b (.fam t c (l.take lo ++ fillRows none m (l.drop lo)) fm) := by
      funext c; by_cases hc : c = b <;> simp [upd, hc]
    rw [e2]
    exact PStep.fillS b lo m cs H n t c l fm (by rw [e]; exact h1) h2 h3
  | wrF b i j cs G n t c l fm y x h1 h2 h3 h4 =>
    have e := hH b (.inr ⟨by simp, hl b (by rw [h1]; rfl)⟩)
    have e2 : (fun b' => if b' ∈ [b] then upd G b (.fam t c l (fm.set i x)) b' else H b') = upd H b (.fam t c l (fm.set i x)) := by
      funext c; by_cases hc : c = b <;> simp [upd, hc]
    rw [e2]
    exact PStep.wrF b i j cs H n t c l fm y x (by rw [e]; exact h1) h2 h3 h4
  | famNew t c b G n cs x h1 h2 h3 =>
    have e := hH b (.inr ⟨by simp, h3⟩)
    have e2 : (fun b' => if b' ∈ [b, n] then upd (upd G b .dead) n (.fam t c [some 0] [x]) b' else H b') = upd (upd H b .dead) n (.fam t c [some 0] [x]) := by
      funext b'
      by_cases hc : b' = n
      · simp [upd, hc]
      · by_cases hc' : b' = b <;> simp [upd, hc, hc']
    rw [e2]
    exact PStep.famNew t c b H n cs x (by rw [e]; exact h1) h2 h3
  | appF0 c kill b2 lo2 m G n t d l2 f2 h1 h2 =>
    have e := hH b2 (.inr ⟨by simp, h2⟩)
    have e2 : (fun b' => if b' ∈ [b2, n] then upd (upd G b2 .dead) n (.fam t d (cutL l2 lo2 m) f2) b' else H b') = upd (upd H b2 .dead) n (.fam t d (cutL l2 lo2 m) f2) := by
      funext b'
      by_cases hc : b' = n
      · simp [upd, hc]
      · by_cases hc' : b' = b2 <;> simp [upd, hc, hc']
    rw [e2]
    exact PStep.appF0 c kill b2 lo2 m H n t d l2 f2 (by rw [e]; exact h1) h2
  | appF c kill b lo len b2 lo2 m G n t d l f l2 f2 h1 h2 h3 h4 h5 =>
    have e := hH b (.inr ⟨by simp, h4⟩)
    have e' := hH b2 (.inr ⟨by simp, h5⟩)
    have e2 : (fun b' => if b' ∈ [b, b2, n] then upd (upd (upd G b .dead) b2 .dead) n (.fam t d (cutL l lo len ++ (cutL l2 lo2 m).map (shiftF f.length)) (f ++ f2)) b' else H b') =
        upd (upd (upd H b .dead) b2 .dead) n (.fam t d (cutL l lo len ++ (cutL l2 lo2 m).map (shiftF f.length)) (f ++ f2)) := by
      funext b'
      by_cases hc : b' = n
      · simp [upd, hc]
      · by_cases hc2 : b' = b2
        · simp [upd, hc, hc2]
        · by_cases hc' : b' = b <;> simp [upd, hc, hc2, hc']
    rw [e2]
    exact PStep.appF c kill b lo len b2 lo2 m H n t d l f l2 f2 (by rw [e]; exact h1) (by rw [e']; exact h2) h3 h4 h5
  | call f args G n ids v' σ' W hn hlt hcall hac hW hkeep =>
    have hsub : (rd.map fun b => renB (fun x => idx x rd 0) (H b)) = (rd.map fun b => renB (fun x => idx x rd 0) (G b)) := List.map_congr_left fun b hb => by rw [hH b (.inl hb)]
    have hat : ∀ b ∈ rd, callG H rd n σ' b = callG G rd n σ' b := by
      intro b hb
      obtain ⟨j, hj, _⟩ := idx_mem hb
      simp only [callG, hj]
    have := PStep.call (P := P) f args H n rd v' σ' W hn hlt hcall (by rw [hsub]; exact hac) (fun b hb => ⟨(hW b hb).1, by rw [hH b (.inl (hW b hb).1)]; exact (hW b hb).2⟩)
      (fun b hb hb' => by rw [hat b hb, hkeep b hb hb', hH b (.inl hb)])
    have e2 : (fun b => if b ∈ W ++ (List.range (σ'.length - rd.length)).map (n + ·) then callG G rd n σ' b else H b) = callG H rd n σ' := by
      funext b
      by_cases hb : b ∈ W ++ (List.range (σ'.length - rd.length)).map (n + ·)
      · rw [if_pos hb]
        simp only [callG]
        cases hi : idx b rd 0 with
        | some j => rfl
        | none =>
          simp only [List.mem_append, List.mem_map, List.mem_range] at hb
          rcases hb with hb | ⟨j, hj, rfl⟩
          · exact absurd (hW b hb).1 (idx_none b rd 0 hi)
          · simp only []; rw [if_pos ⟨by omega, by omega⟩, if_pos ⟨by omega, by omega⟩]
      · rw [if_neg hb]
        by_cases hi : b ∈ rd
        · have h1 := hfr.1 b hb
          rw [hH b (.inl hi)]
          rw [← h1]
          simp only [callG]
          obtain ⟨j, hj, _⟩ := idx_mem hi
          rw [hj]
        · have hx : idx b rd 0 = none := by
            cases h : idx b rd 0 with
            | none => rfl
            | some j => exact absurd (List.mem_of_getElem? (idx_get h)) hi
          simp only [callG, hx]
          rw [if_neg]
          intro h
          apply hb
          simp only [List.mem_append, List.mem_map, List.mem_range]
          exact .inr ⟨b - n, by omega, by omega⟩
    rw [e2]
    exact this

/-! the trace's facts -/
theorem Runs.len {nt : Nat} {ops : List Oper} : ∀ {rest : List Oper} {st st' : St} {l : List (Oper × St × Tr × St)}, Runs P nt ops rest st l st' → l.length = rest.length
  | [], _, _, _, h => by cases h; rfl
  | _ :: _, _, _, _, h => by cases h with | cons _ _ _ _ _ _ _ _ h => simp [Runs.len h]

/-- the state ahead of operation j -/
def stAt (st : St) (l : List (Oper × St × Tr × St)) : Nat → St
  | 0 => st
  | j + 1 => match l[j]? with | some (_, _, _, s) => s | none => stAt st l j

theorem Runs.at {nt : Nat} {ops : List Oper} : ∀ {rest : List Oper} {st st' : St} {l : List (Oper × St × Tr × St)}, Runs P nt ops rest st l st' →
    (∀ (j : Nat) (o : Oper) (s : St) (tr : Tr) (s1 : St), l[j]? = some (o, s, tr, s1) → rest[j]? = some o ∧ s = stAt st l j ∧ s1 = stAt st l (j + 1) ∧ StepOf P nt ops o s tr s1) ∧ stAt st l l.length = st'
  | [], st, st', l, h => by cases h; exact ⟨by simp, rfl⟩
  | o :: rest, st, st', l, h => by
    cases h with
    | cons _ _ _ tr st1 l st' hs h =>
      obtain ⟨h1, h2⟩ := Runs.at h
      have shift : ∀ j, stAt st ((o, st, tr, st1) :: l) (j + 1) = stAt st1 l j := by
        intro j
        induction j with
        | zero => simp [stAt]
        | succ j ih => simp only [stAt, List.getElem?_cons_succ] at ih ⊢; rw [ih]
      refine ⟨fun j o' s tr' s1 hj => ?_, by simp only [List.length_cons]; rw [shift]; exact h2⟩
      cases j with
      | zero => simp at hj; obtain ⟨rfl, rfl, rfl, rfl⟩ := hj; exact ⟨rfl, rfl, by simp [stAt], hs⟩
      | succ j =>
        obtain ⟨g1, g2, g3, g4⟩ := h1 j o' s tr' s1 (by simpa using hj)
        exact ⟨by simpa using g1, by rw [shift]; exact g2, by rw [shift]; exact g3, g4⟩
end Go.Proofs.YtdgipcjigbagfaaGreat.AB
