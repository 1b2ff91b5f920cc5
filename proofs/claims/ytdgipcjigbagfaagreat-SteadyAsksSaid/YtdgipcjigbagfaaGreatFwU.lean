/- Letting go of what isn't reached; a nil slice told as an empty one. -/
import Derived.Test.YtdgipcjigbagfaaGreatFwT
namespace Go.Proofs.YtdgipcjigbagfaaGreat.AB
set_option linter.unusedSimpArgs false
set_option linter.unusedVariables false
variable {P : Program} {ti : Nat → TyI}

/-- what is only read, or gone, stays as it is -/
structure Keeps (m : Nat) (st st' : St) : Prop where
  len : m ≤ st'.σ.length
  same : ∀ b, b < m → (getB st.σ b).wr = false → getB st'.σ b = getB st.σ b

theorem Keeps.trans {m : Nat} {s1 s2 s3 : St} (h : Keeps m s1 s2) (h' : Keeps m s2 s3) : Keeps m s1 s3 :=
  ⟨h'.len, fun b hb hw => by rw [← h.same b hb hw]; exact h'.same b hb (by rw [h.same b hb hw]; exact hw)⟩

theorem Keeps.refl {m : Nat} {s : St} (h : m ≤ s.σ.length) : Keeps m s s := ⟨h, fun _ _ _ => rfl⟩

theorem restrict_get : ∀ (keep : List Nat) (tm : List (Nat × AVal)) (t : Nat), getT (restrict keep tm) t = getT tm t ∨ getT (restrict keep tm) t = .undef
  | [], tm, t => .inr rfl
  | k :: keep, tm, t => by
    have ih := restrict_get keep tm t
    simp only [restrict, List.map_cons, getT] at ih ⊢
    cases h : Nat.beq k t with
    | true => have := beq_nat h; subst this; exact .inl rfl
    | false => exact ih

theorem StRel.restrict {B : Base} {nt : Nat} {st : St} {a : Act} {w : World} (h : StRel B nt st a w) (keep : List Nat) : StRel B nt ⟨restrict keep st.tm, st.σ⟩ a w := by
  obtain ⟨⟨φ, ψ, hg, hd, ht⟩, h2, h3, h4⟩ := h
  refine ⟨⟨φ, ψ, hg, hd, fun t => ?_⟩, h2, h3, h4⟩
  rcases restrict_get keep st.tm t with e | e
  · simp only [e]; exact ht t
  · simp only [e, VRel]

theorem rangeL_eq : ∀ (n : Nat) (acc : List Nat), rangeL n acc = List.range n ++ acc
  | 0, acc => by simp [rangeL]
  | n + 1, acc => by simp only [rangeL, rangeL_eq n, List.range_succ, List.append_assoc, List.cons_append, List.nil_append]

theorem reach_prefix (σ : List Blk) : ∀ (n : Nat) (todo acc : List Nat), ∃ s, reach σ n todo acc = acc ++ s
  | 0, todo, acc => ⟨[], by simp [reach]⟩
  | n + 1, [], acc => ⟨[], by simp [reach]⟩
  | n + 1, b :: todo, acc => by
    simp only [reach]
    cases (memB b acc || Nat.ble σ.length b) with
    | true => simp only [cond_true]; exact reach_prefix σ n todo acc
    | false =>
      simp only [cond_false]
      obtain ⟨s, hs⟩ := reach_prefix σ n (ptrsB (getB σ b) ++ todo) (acc ++ [b])
      exact ⟨b :: s, by rw [hs]; simp⟩

theorem reachM_spec {σ : List Blk} {m : Nat} (hm : m ≤ σ.length) (roots : List Nat) : (reachM σ m roots).Nodup ∧ (∀ b ∈ reachM σ m roots, b < σ.length) ∧ (∀ b, b < m → (reachM σ m roots)[b]? = some b) ∧ m ≤ (reachM σ m roots).length := by
  unfold reachM
  have e : rangeL m [] = List.range m := by rw [rangeL_eq]; simp
  rw [e]
  obtain ⟨h1, h2⟩ := reach_spec σ 4096 (ptrsL ((List.range m).map fun b => ptrsB (getB σ b)) ++ roots) (List.range m) List.nodup_range (fun b hb => by have := List.mem_range.mp hb; omega)
  obtain ⟨s, hs⟩ := reach_prefix σ 4096 (ptrsL ((List.range m).map fun b => ptrsB (getB σ b)) ++ roots) (List.range m)
  refine ⟨h1, h2, fun b hb => ?_, ?_⟩
  · rw [hs, List.getElem?_append_left (by simpa using hb)]
    simp [hb]
  · rw [hs]; simp

theorem renTm_get (ρ : Nat → Option Nat) : ∀ (tm : List (Nat × AVal)) (t : Nat), getT (renTm ρ tm) t = renV ρ (getT tm t)
  | [], t => by simp [renTm, getT, renV]
  | (u, v) :: tm, t => by
    simp only [renTm, getT]
    cases Nat.beq u t with
    | true => rfl
    | false => exact renTm_get ρ tm t

theorem renB_still {ρ : Nat → Option Nat} {b : Blk} (h : b.wr = false) : renB ρ b = b := by
  cases b with
  | dead => rfl
  | var cs => cases h
  | fam t c l f => cases h
  | cells cs => cases h
  | rows c l ro => rfl

theorem gc_keeps {m : Nat} {st : St} (hm : m ≤ st.σ.length) : Keeps m st (gc m st) := by
  obtain ⟨h1, h2, h3, h4⟩ := reachM_spec hm (ptrsTm st.tm)
  refine ⟨by simp only [gc, subStore, List.length_map]; exact h4, fun b hb hw => ?_⟩
  simp only [gc, subStore]
  rw [getB_map, h3 b hb]
  exact renB_still hw

theorem gc_sound {B : Base} {nt m : Nat} (hB : B.m = m) {st : St} {a : Act} {w : World} (h : StRel B nt st a w) : StRel B nt (gc m st) a w := by
  obtain ⟨⟨φ, ψ, hg, hd, ht⟩, hsz, hdf, hlen⟩ := h
  obtain ⟨h1, h2, h3, h4⟩ := reachM_spec (σ := st.σ) (m := m) (by omega) (ptrsTm st.tm)
  have hren : ∀ b c L, idx b (reachM st.σ m (ptrsTm st.tm)) 0 = some c → φ b = some L → (fun j => ((reachM st.σ m (ptrsTm st.tm))[j]?).bind φ) c = some L := by
    intro b c L hc hL
    simp [idx_get hc, hL]
  have hget : ∀ j, getB (gc m st).σ j = match (reachM st.σ m (ptrsTm st.tm))[j]? with | some b => renB (fun x => idx x (reachM st.σ m (ptrsTm st.tm)) 0) (getB st.σ b) | none => .dead := by
    intro j; simp only [gc, subStore]; rw [getB_map]; cases (reachM st.σ m (ptrsTm st.tm))[j]? <;> rfl
  have atm : ∀ b, b < B.m → getB (gc m st).σ b = renB (fun x => idx x (reachM st.σ m (ptrsTm st.tm)) 0) (getB st.σ b) := by
    intro b hb; rw [hget, h3 b (by omega)]
  refine ⟨⟨fun j => ((reachM st.σ m (ptrsTm st.tm))[j]?).bind φ, fun j => match (reachM st.σ m (ptrsTm st.tm))[j]? with | some b => ψ b | none => [], ⟨hg.s.sub h1, fun j hj c hc => ?_, hg.frame, hg.grow, fun b hb => ?_, fun j hj => ?_, fun b hb hr => ?_, fun b hb hr => ?_, fun b hb hr => ?_, hg.out⟩, fun j hj => ?_, fun t => ?_⟩, hsz, hdf, ?_⟩
  · rw [hget] at hj
    cases hb : (reachM st.σ m (ptrsTm st.tm))[j]? with
    | none => rw [hb] at hj; cases hj
    | some b =>
      rw [hb] at hj hc
      simp only [renB_wr] at hj
      exact hg.own b hj c hc
  · have := hg.keep b hb
    simp only [h3 b (by omega), Option.bind_some]; exact this
  · rw [hget] at hj
    cases hb : (reachM st.σ m (ptrsTm st.tm))[j]? with
    | none => rw [hb] at hj; cases hj
    | some b =>
      rw [hb] at hj
      simp only [renB_ro] at hj
      obtain ⟨g1, g2⟩ := hg.ro b hj
      have e : j = b := by
        have q1 := nodup_idx h1 hb
        have q2 := nodup_idx h1 (h3 b (by omega))
        rw [q1] at q2; exact Option.some.inj q2
      subst e; exact ⟨g1, g2⟩
  · rw [atm b hb, renB_wr]; exact hg.ro' b hb hr
  · rw [atm b hb, renB_live]; exact hg.dd b hb hr
  · rw [atm b hb, renB_still (hg.ro' b hb hr)]; exact hg.rq b hb hr
  · simp only [gc, subStore, List.length_map]
    cases hb : (reachM st.σ m (ptrsTm st.tm))[j]? with
    | none => simp [hb] at hj
    | some b => exact (List.getElem?_eq_some_iff.mp hb).1
  · simp only [gc, renTm_get]
    exact VRel.ren hren _ (ht t)
  · simp only [gc, subStore, List.length_map]; omega

theorem setTm_get : ∀ (tm : List (Nat × AVal)) (t : Nat) (x : AVal) (u : Nat), getT (setTm tm t x) u = getT tm u ∨ (u = t ∧ getT (setTm tm t x) u = x)
  | [], t, x, u => .inl rfl
  | (k, v) :: tm, t, x, u => by
    simp only [setTm]
    cases h : Nat.beq k t with
    | true =>
      have e := beq_nat h; subst e
      simp only [cond_true, getT]
      cases h2 : Nat.beq k u with
      | true => exact .inr ⟨(beq_nat h2).symm, rfl⟩
      | false => exact .inl rfl
    | false =>
      simp only [cond_false, getT]
      cases h2 : Nat.beq k u with
      | true => exact .inl rfl
      | false => exact setTm_get tm t x u

theorem setCellV_get : ∀ (l : List AVal) (j : Nat) (x : AVal) (k : Nat), (setCellV l j x)[k]? = if k = j ∧ j < l.length then some x else l[k]?
  | [], j, x, k => by simp [setCellV]
  | y :: l, 0, x, 0 => by simp [setCellV]
  | y :: l, 0, x, k + 1 => by simp [setCellV]
  | y :: l, j + 1, x, 0 => by simp [setCellV]
  | y :: l, j + 1, x, k + 1 => by simp [setCellV, setCellV_get l j x k]
theorem setCellV_length : ∀ (l : List AVal) (j : Nat) (x : AVal), (setCellV l j x).length = l.length
  | [], _, _ => rfl
  | _ :: _, 0, _ => rfl
  | _ :: l, j + 1, x => by simp [setCellV, setCellV_length l j x]

theorem wBlk_wr (h : Wd) : (wBlk h).wr = true := by unfold wBlk; cases h.t <;> rfl
theorem wBlk_rel {φ : Map} {w : World} (h : Wd) : BRel φ w (wBlk h) (some ⟨0, 0, wSz h, 0, 0, []⟩) [] := by
  unfold wBlk wSz
  cases h.t with
  | none => exact fun _ => ⟨_, rfl, rfl, rfl, rfl, by simp [Blk.cnt], fun h => absurd rfl h, rfl⟩
  | some t => exact fun _ => ⟨_, rfl, rfl, rfl, rfl, by simp [Blk.cnt], fun h => absurd rfl h, rfl, by simp [ownOf], fun h => absurd rfl h, fun q p x hq _ => by simp at hq⟩

theorem empty_slice {φ : Map} {n : Nat} {s : Nat} {v : Value} (hv : v = .slice none 0 0) : VRel (fun b => if b = n then some ⟨0, 0, s, 0, 0, []⟩ else φ b) (.slice s n 0 0 none) v := by
  simp only [VRel]
  exact ⟨⟨0, 0, s, 0, 0, []⟩, none, 0, by simp, hv, rfl, by simp, by simp, by simp, .inl rfl, by simp⟩

theorem getB_snoc' (σ : List Blk) (b : Nat) (x y : Blk) : getB (setB σ b x ++ [y]) = upd (getB (setB σ b x)) σ.length y := by
  have := getB_snoc (setB σ b x) y
  rw [setB_length] at this; exact this

theorem getB_map' (g : Blk → Blk) (hg : g .dead = .dead) : ∀ (σ : List Blk) (x : Nat), getB (σ.map g) x = g (getB σ x)
  | [], _ => by simp [getB, hg]
  | _ :: _, 0 => rfl
  | _ :: σ, x + 1 => by simp only [List.map_cons, getB]; exact getB_map' g hg σ x
theorem widT_sound {B : Base} {nt : Nat} {st : St} {a : Act} {w : World} (hd : Wd) (h : StRel B nt st a w) : StRel B nt (widT hd st) a w := by
  have h0 := h
  obtain ⟨⟨φ, ψ, hg, hdom, ht⟩, hsz, hdf, hlen⟩ := h
  have hφ : φ st.σ.length = none := by
    cases e : φ st.σ.length with
    | none => rfl
    | some L => have := hdom _ (by rw [e]; simp); omega
  have hext : Ext φ (fun b => if b = st.σ.length then some ⟨0, 0, wSz hd, 0, 0, []⟩ else φ b) := hgi_ext hφ
  have hrelE : BRel (fun b => if b = st.σ.length then some ⟨0, 0, wSz hd, 0, 0, []⟩ else φ b) w (wBlk hd) (some ⟨0, 0, wSz hd, 0, 0, []⟩) [] :=
    wBlk_rel hd
  have hdom' : ∀ b, (fun b => if b = st.σ.length then some (⟨0, 0, wSz hd, 0, 0, []⟩ : Loc) else φ b) b ≠ none → b < st.σ.length + 1 := by
    intro b hb
    by_cases e : b = st.σ.length
    · omega
    · simp only [e, if_false] at hb; have := hdom b hb; omega
  unfold widT
  split
  · rename_i hn
    refine ⟨⟨fun b => if b = st.σ.length then some ⟨0, 0, wSz hd, 0, 0, []⟩ else φ b, fun b => if b = st.σ.length then [] else ψ b, ?_, fun b hb => ?_, fun t => ?_⟩, hsz, hdf, by simp; omega⟩
    · have := (hg.add (X := []) (n := st.σ.length) (blk := wBlk hd) (L := ⟨0, 0, wSz hd, 0, 0, []⟩) (own := []) (w' := w) (by simp) hφ (getB_past _ _ (Nat.le_refl _)) hlen (wBlk_wr hd) (Nat.le_refl _) (.refl _) (fun c hc _ => rfl) hrelE (by simp)).1
      rw [getB_snoc]
      have e : (fun b => if b = st.σ.length then wBlk hd else if b ∈ ([] : List Nat) then .dead else getB st.σ b) = upd (getB st.σ) st.σ.length (wBlk hd) := by funext b; simp [upd]
      rw [e] at this; exact this
    · simp only [List.length_append, List.length_singleton]; exact hdom' b hb
    · rcases setTm_get st.tm hd.a (.slice (wSz hd) st.σ.length 0 0 none) t with e | ⟨rfl, e⟩
      · simp only [e]; exact VRel.ext hext _ (ht t)
      · simp only [e]
        have := ht hd.a
        rw [hn] at this
        simp only [VRel] at this
        exact empty_slice this
  · exact h0

theorem widC_sound {B : Base} {nt : Nat} {st : St} {a : Act} {w : World} (hd : Wd) (bb : Nat) (h : StRel B nt st a w) : StRel B nt (widC hd bb st) a w := by
  have h0 := h
  obtain ⟨⟨φ, ψ, hg, hdom, ht⟩, hsz, hdf, hlen⟩ := h
  have hφ : φ st.σ.length = none := by
    cases e : φ st.σ.length with
    | none => rfl
    | some L => have := hdom _ (by rw [e]; simp); omega
  have hext : Ext φ (fun b => if b = st.σ.length then some ⟨0, 0, wSz hd, 0, 0, []⟩ else φ b) := hgi_ext hφ
  have hrelE : BRel (fun b => if b = st.σ.length then some ⟨0, 0, wSz hd, 0, 0, []⟩ else φ b) w (wBlk hd) (some ⟨0, 0, wSz hd, 0, 0, []⟩) [] :=
    wBlk_rel hd
  have hdom' : ∀ b, (fun b => if b = st.σ.length then some (⟨0, 0, wSz hd, 0, 0, []⟩ : Loc) else φ b) b ≠ none → b < st.σ.length + 1 := by
    intro b hb
    by_cases e : b = st.σ.length
    · omega
    · simp only [e, if_false] at hb; have := hdom b hb; omega
  unfold widC
  split
  · rename_i cs hcs
    split
    · rename_i hn
      have hlt : bb < st.σ.length := lt_of_live (by rw [hcs]; rfl)
      have hwr : (getB st.σ bb).wr = true := by rw [hcs]; rfl
      refine ⟨⟨fun b => if b = st.σ.length then some ⟨0, 0, wSz hd, 0, 0, []⟩ else φ b, fun b => if b = st.σ.length then [] else ψ b, ?_, fun b hb => ?_, fun t => VRel.ext hext _ (ht t)⟩, hsz, hdf, by simp [setB_length]; omega⟩
      · rw [getB_snoc' , getB_setB _ _ _ hlt]
        refine hg.step (X := [bb]) (N := [st.σ.length]) ⟨hext, fun b hb => by simp at hb; simp [hb], fun b hb hb' => by simp at hb hb'; simp [upd, hb, hb'], fun b hb => by simp at hb; subst hb; exact getB_past _ _ (Nat.le_refl _), Nat.le_refl _, fun c hc _ => rfl, ?_, ?_, ?_, ?_, ?_, ?_, .refl _⟩ (by simp; exact hlen)
        · intro b hb
          by_cases e : b = st.σ.length
          · subst e; simp only [upd, if_true]; exact hrelE
          · have hb' : b = bb := by simp at hb; rcases hb with h | h; exact h; exact absurd h e
            have hb2 := hb'.symm; subst hb2
            simp only [upd, e, if_false, if_true]
            have hb0 := (hg.s.rel bb).keep hext (w' := w) (fun _ _ => rfl)
            rw [hcs] at hb0
            intro hl
            obtain ⟨L, ho, hs, hc, hown, hcl, hlies, hfam⟩ := hb0 rfl
            refine ⟨L, ho, by rw [hs]; simp [Blk.size, setCellV_length], hc, hown, hcl, fun h0 => ?_, hfam⟩
            obtain ⟨hcnt, arr, e', fz, hh, hlim, hfz, hr⟩ := hlies h0
            refine ⟨hcnt, arr, e', fz, hh, hlim, hfz, fun i cs' hi j x hx => ?_⟩
            simp only [Blk.rowAt] at hi
            split at hi
            · rename_i hi0
              injection hi with hi; subst hi
              rw [setCellV_get] at hx
              split at hx
              · rename_i hj
                injection hx with hx; subst hx
                have hold : cs[j]? = some .nils := by
                  rw [hj.1]
                  rw [List.getD_eq_getElem?_getD, List.getElem?_eq_getElem hj.2] at hn
                  rw [List.getElem?_eq_getElem hj.2]; simpa using hn
                obtain ⟨u, hu, hur⟩ := hr i cs (by simp [Blk.rowAt, hi0]) j .nils hold
                simp only [VRel] at hur
                exact ⟨u, hu, empty_slice hur⟩
              · exact hr i cs (by simp [Blk.rowAt, hi0]) j x hx
            · cases hi
        · intro b hb hw c hc
          by_cases e : b = st.σ.length
          · subst e; simp at hc
          · have hb' : b = bb := by simp at hb; rcases hb with h | h; exact h; exact absurd h e
            have hb2 := hb'.symm; subst hb2
            simp only [e, if_false] at hc
            exact .inr ⟨bb, by simp, hwr, hc⟩
        · intro b hb _; simp at hb; subst hb; exact hwr
        · intro b hb hr
          exfalso
          by_cases e : b = st.σ.length
          · subst e; simp only [upd, if_true] at hr; unfold wBlk at hr; cases hdt : hd.t <;> rw [hdt] at hr <;> cases hr
          · have hb' : b = bb := by simp at hb; rcases hb with h | h; exact h; exact absurd h e
            have hb2 := hb'.symm; subst hb2
            simp [upd, e, Blk.ro] at hr
        · intro b b' hne hb hb' hl hl' hw c hc hc'
          by_cases e : b = st.σ.length
          · subst e; simp at hc
          · by_cases e' : b' = st.σ.length
            · subst e'; simp at hc'
            · have h1 : b = bb := by simp at hb; rcases hb with h | h; exact h; exact absurd h e
              have h2 : b' = bb := by simp at hb'; rcases hb' with h | h; exact h; exact absurd h e'
              exact hne (h1.trans h2.symm)
        · intro b hb hr; simp at hb; subst hb; rw [hcs] at hr; cases hr
      · simp only [List.length_append, List.length_singleton, setB_length]; exact hdom' b hb
    · exact h0
  · exact h0

theorem dropW_sound {B : Base} {nt : Nat} {st : St} {a : Act} {w : World} (b0 : Nat) (h : StRel B nt st a w) : StRel B nt (dropW b0 st) a w := by
  unfold dropW
  cases hw : (getB st.σ b0).wr with
  | false => exact h
  | true =>
    simp only [cond_true]
    obtain ⟨⟨φ, ψ, hg, hdom, ht⟩, hsz, hdf, hlen⟩ := h
    have hlt : b0 < st.σ.length := lt_of_live (wr_live hw)
    have hnro : (getB st.σ b0).ro = false := by
      cases hb : getB st.σ b0 with
      | rows c l ro => rw [hb] at hw; simp [Blk.wr] at hw; simp [Blk.ro, hw]
      | _ => rfl
    refine ⟨⟨φ, ψ, ?_, fun b hb => by rw [setB_length]; exact hdom b hb, ht⟩, hsz, hdf, by rw [setB_length]; exact hlen⟩
    rw [getB_setB _ _ _ hlt]
    refine hg.step (X := [b0]) (N := []) ⟨fun b L h => h, fun b _ => rfl, fun b hb _ => ⟨by simp at hb; simp [upd, hb], rfl⟩, fun b hb => (by cases hb), Nat.le_refl _, fun c _ _ => rfl, ?_, ?_, ?_, ?_, ?_, ?_, .refl _⟩ (fun b hb => (by cases hb))
    · intro b hb; simp at hb; subst hb; simp only [upd, if_true]; intro hl; cases hl
    · intro b hb hw'; simp at hb; subst hb; simp [upd, Blk.wr] at hw'
    · intro b hb hw'; simp at hb; subst hb; simp [upd, Blk.wr] at hw'
    · intro b hb hr; simp at hb; subst hb; simp [upd, Blk.ro] at hr
    · intro b b' hne hb hb'; simp at hb hb'; exact absurd (hb.trans hb'.symm) hne
    · intro b hb hr; simp at hb; subst hb; rw [hnro] at hr; cases hr

theorem mvR_ne {b n x : Nat} (h : x ≠ b) : mvR b n x = some x := by
  unfold mvR
  cases e : Nat.beq x b with
  | true => exact absurd (beq_nat e) h
  | false => rfl
theorem mvR_eq (b n : Nat) : mvR b n b = some n := by unfold mvR; rw [Nat.beq_refl]; rfl

theorem moveW_get {σ : List Blk} {b : Nat} (hb : b < σ.length) (x : Nat) :
    getB ((setB σ b .dead).map (renB (mvR b σ.length)) ++ [renB (mvR b σ.length) (getB σ b)]) x =
      if x = σ.length then renB (mvR b σ.length) (getB σ b) else if x = b then .dead else renB (mvR b σ.length) (getB σ x) := by
  rw [getB_snoc]
  have hl : ((setB σ b .dead).map (renB (mvR b σ.length))).length = σ.length := by rw [List.length_map, setB_length]
  rw [hl]
  unfold upd
  by_cases e : x = σ.length
  · rw [if_pos e, if_pos e]
  · rw [if_neg e, if_neg e, getB_map' _ rfl]
    rw [getB_setB _ _ _ hb]
    unfold upd
    by_cases e2 : x = b
    · rw [if_pos e2, if_pos e2]; rfl
    · rw [if_neg e2, if_neg e2]

theorem moveW_sound {B : Base} {nt : Nat} {st : St} {a : Act} {w : World} (b0 : Nat) (h : StRel B nt st a w) : StRel B nt (moveW b0 st) a w := by
  unfold moveW
  cases hw : (getB st.σ b0).wr with
  | false => exact h
  | true =>
    simp only [cond_true]
    obtain ⟨⟨φ, ψ, hg, hdom, ht⟩, hsz, hdf, hlen⟩ := h
    have hlt : b0 < st.σ.length := lt_of_live (wr_live hw)
    have hnro : (getB st.σ b0).ro = false := by
      cases hb : getB st.σ b0 with
      | rows c l ro => rw [hb] at hw; simp [Blk.wr] at hw; simp [Blk.ro, hw]
      | _ => rfl
    have hφ : φ st.σ.length = none := by
      cases e : φ st.σ.length with
      | none => rfl
      | some L => have := hdom _ (by rw [e]; simp); omega
    have hren : ∀ b c L, mvR b0 st.σ.length b = some c → φ b = some L → (fun x => if x = st.σ.length then φ b0 else φ x) c = some L := by
      intro b c L hc hL
      by_cases e : b = b0
      · subst e; rw [mvR_eq] at hc; injection hc with hc; subst hc; simp [hL]
      · rw [mvR_ne e] at hc; injection hc with hc; subst hc
        have : b ≠ st.σ.length := by intro e2; subst e2; rw [hφ] at hL; cases hL
        simp [this, hL]
    have hget := moveW_get (σ := st.σ) hlt
    refine ⟨⟨fun x => if x = st.σ.length then φ b0 else φ x, fun x => if x = st.σ.length then ψ b0 else ψ x, ⟨⟨fun x => ?_, fun x y hne hl hl' hwr c hc hc' => ?_⟩, fun x hx c hc => ?_, hg.frame, hg.grow, fun b hb => ?_, fun x hx => ?_, fun b hb hr => ?_, fun b hb hr => ?_, fun b hb hr => ?_, hg.out⟩, fun x hx => ?_, fun t => ?_⟩, hsz, hdf, ?_⟩
    · rw [hget]
      by_cases e : x = st.σ.length
      · simp only [e, if_true]; exact BRel.ren hren (hg.s.rel b0)
      · simp only [e, if_false]
        by_cases e2 : x = b0
        · simp only [e2, if_true]; intro hl; cases hl
        · simp only [e2, if_false]; exact BRel.ren hren (hg.s.rel x)
    · rw [hget] at hl hwr
      rw [hget] at hl' hwr
      try simp only at hc hc'
      by_cases e : x = st.σ.length
      · by_cases e' : y = st.σ.length
        · exact hne (e.trans e'.symm)
        · by_cases e2 : y = b0
          · rw [if_neg e', if_pos e2] at hl'; simp [Blk.live] at hl'
          · simp only [e, e', e2, if_true, if_false, renB_live, renB_wr] at hl hl' hwr hc hc'
            exact hg.s.disj b0 y (Ne.symm e2) hl hl' hwr c hc hc'
      · by_cases e2 : x = b0
        · rw [if_neg e, if_pos e2] at hl; simp [Blk.live] at hl
        · by_cases e' : y = st.σ.length
          · simp only [e, e', e2, if_true, if_false, renB_live, renB_wr] at hl hl' hwr hc hc'
            exact hg.s.disj x b0 e2 hl hl' hwr c hc hc'
          · by_cases e2' : y = b0
            · rw [if_neg e', if_pos e2'] at hl'; simp [Blk.live] at hl'
            · simp only [e, e', e2, e2', if_false, renB_live, renB_wr] at hl hl' hwr hc hc'
              exact hg.s.disj x y hne hl hl' hwr c hc hc'
    · rw [hget] at hx
      try simp only at hc
      by_cases e : x = st.σ.length
      · simp only [e, if_true, renB_wr] at hx hc; exact hg.own b0 hx c hc
      · by_cases e2 : x = b0
        · rw [if_neg e, if_pos e2] at hx; simp [Blk.wr] at hx
        · simp only [e, e2, if_false, renB_wr] at hx hc; exact hg.own x hx c hc
    · have e : b ≠ st.σ.length := by omega
      simp only [e, if_false]; exact hg.keep b hb
    · rw [hget] at hx
      by_cases e : x = st.σ.length
      · simp only [e, if_true, renB_ro] at hx; rw [hnro] at hx; cases hx
      · by_cases e2 : x = b0
        · rw [if_neg e, if_pos e2] at hx; simp [Blk.ro] at hx
        · simp only [e, e2, if_false, renB_ro] at hx; exact hg.ro x hx
    · rw [hget, if_neg (by omega)]
      by_cases e2 : b = b0
      · rw [if_pos e2]; rfl
      · rw [if_neg e2, renB_wr]; exact hg.ro' b hb hr
    · rw [hget, if_neg (by omega)]
      by_cases e2 : b = b0
      · rw [if_pos e2]; rfl
      · rw [if_neg e2, renB_live]; exact hg.dd b hb hr
    · rw [hget, if_neg (by omega)]
      have hw' := hg.ro' b hb hr
      have e2 : b ≠ b0 := by intro e; subst e; rw [hw] at hw'; cases hw'
      rw [if_neg e2, renB_still hw']; exact hg.rq b hb hr
    · simp only [List.length_append, List.length_map, setB_length, List.length_singleton]
      by_cases e : x = st.σ.length
      · omega
      · simp only [e, if_false] at hx; have := hdom x hx; omega
    · simp only [renTm_get]
      exact VRel.ren hren _ (ht t)
    · simp only [List.length_append, List.length_map, setB_length, List.length_singleton]; omega

theorem widen1_sound {B : Base} {nt : Nat} {st : St} {a : Act} {w : World} (hd : Wd) (h : StRel B nt st a w) : StRel B nt (widen1 hd st) a w := by
  unfold widen1
  split
  · exact widT_sound hd h
  · exact widC_sound hd _ h
  · exact moveW_sound _ h
  · exact dropW_sound _ h
end Go.Proofs.YtdgipcjigbagfaaGreat.AB
