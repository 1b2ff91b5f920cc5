/- A region that draws its order: the theorem. -/
import Derived.Test.YtdgipcjigbagfaaGreatFwS
namespace Go.Proofs.YtdgipcjigbagfaaGreat.AB
set_option linter.unusedSimpArgs false
set_option linter.unusedVariables false
variable {P : Program} {ti : Nat → TyI}

theorem meets_spec : ∀ (a b : List Nat), meets a b = true ↔ ∃ x ∈ a, x ∈ b
  | [], b => by simp [meets]
  | x :: a, b => by
    simp only [meets, Bool.or_eq_true, memB_spec, meets_spec a b, List.mem_cons]
    constructor
    · rintro (h | ⟨y, h1, h2⟩)
      · exact ⟨x, .inl rfl, h⟩
      · exact ⟨y, .inr h1, h2⟩
    · rintro ⟨y, rfl | h1, h2⟩
      · exact .inl h2
      · exact .inr ⟨y, h1, h2⟩

def Bound (ps : List Nat) (e d : Nat × List Nat × List Nat) : Prop := clash e d = true → (ps.getD e.1 0).testBit d.1 = true

theorem orderOk1_spec (ps : List Nat) (e : Nat × List Nat × List Nat) : ∀ (log : Log), orderOk1 ps e log = true → ∀ d ∈ log, Bound ps e d
  | [], _, d, h => by simp at h
  | x :: log, h, d, hd => by
    simp only [orderOk1, Bool.and_eq_true, Bool.or_eq_true, Bool.not_eq_true'] at h
    simp at hd
    rcases hd with rfl | hd
    · intro hc
      rcases h.1 with h1 | h1
      · rw [hc] at h1; cases h1
      · exact h1
    · exact orderOk1_spec ps e log h.2 d hd

theorem orderOk_spec (ps : List Nat) : ∀ (log : Log), orderOk ps log = true → log.Pairwise (Bound ps)
  | [], _ => .nil
  | e :: log, h => by
    simp only [orderOk, Bool.and_eq_true] at h
    exact .cons (orderOk1_spec ps e log h.1) (orderOk_spec ps log h.2)

theorem entry_mem : ∀ (l : TL) (i k : Nat) (o : Oper) (s : St) (tr : Tr) (s1 : St), l[k]? = some (o, s, tr, s1) → (tr.rd ≠ [] ∨ tr.wr ≠ []) → (i + k, tr.rd, tr.wr) ∈ entries i l
  | [], i, k, o, s, tr, s1, h, _ => by simp at h
  | (o0, s0, tr0, s10) :: l, i, k, o, s, tr, s1, h, hne => by
    cases k with
    | zero =>
      simp at h
      obtain ⟨rfl, rfl, rfl, rfl⟩ := h
      simp only [entries]
      split
      · rename_i h1 h2; rcases hne with h | h
        · exact absurd h1 h
        · exact absurd h2 h
      · simp
    | succ k =>
      have := entry_mem l (i + 1) k o s tr s1 (by simpa using h) hne
      rw [show i + 1 + k = i + (k + 1) by omega] at this
      simp only [entries]
      split
      · exact this
      · exact List.mem_cons_of_mem _ this

theorem entry_pair {R : (Nat × List Nat × List Nat) → (Nat × List Nat × List Nat) → Prop} : ∀ (l : TL) (i k j : Nat) (o : Oper) (s : St) (tr : Tr) (s1 : St) (o' : Oper) (s' : St) (tr' : Tr) (s1' : St), (entries i l).Pairwise R → k < j →
    l[k]? = some (o, s, tr, s1) → l[j]? = some (o', s', tr', s1') → (tr.rd ≠ [] ∨ tr.wr ≠ []) → (tr'.rd ≠ [] ∨ tr'.wr ≠ []) → R (i + k, tr.rd, tr.wr) (i + j, tr'.rd, tr'.wr)
  | [], i, k, j, o, s, tr, s1, o', s', tr', s1', _, _, h, _, _, _ => by simp at h
  | (o0, s0, tr0, s10) :: l, i, k, j, o, s, tr, s1, o', s', tr', s1', hp, hkj, h, h', hne, hne' => by
    obtain ⟨j, rfl⟩ : ∃ m, j = m + 1 := ⟨j - 1, by omega⟩
    have hj := entry_mem l (i + 1) j o' s' tr' s1' (by simpa using h') hne'
    rw [show i + 1 + j = i + (j + 1) by omega] at hj
    cases k with
    | zero =>
      simp at h
      obtain ⟨rfl, rfl, rfl, rfl⟩ := h
      have he : entries i ((o0, s0, tr0, s10) :: l) = (i, tr0.rd, tr0.wr) :: entries (i + 1) l := by
        simp only [entries]
        split
        · rename_i h1 h2; rcases hne with h | h
          · exact absurd h1 h
          · exact absurd h2 h
        · rfl
      rw [he] at hp
      exact (List.pairwise_cons.mp hp).1 _ hj
    | succ k =>
      have hp' : (entries (i + 1) l).Pairwise R := by
        simp only [entries] at hp
        split at hp
        · exact hp
        · exact (List.pairwise_cons.mp hp).2
      have := entry_pair l (i + 1) k j o s tr s1 o' s' tr' s1' hp' (by omega) (by simpa using h) (by simpa using h') hne hne'
      rwa [show i + 1 + k = i + (k + 1) by omega, show i + 1 + j = i + (j + 1) by omega] at this

/-- how many are still to come -/
def cnt (L : Nat → Bool) : Nat → Nat
  | 0 => 0
  | k + 1 => cnt L k + (if L k = true then 0 else 1)

theorem cnt_zero {L : Nat → Bool} : ∀ {n : Nat}, cnt L n = 0 → ∀ k, k < n → L k = true
  | 0, _, k, h => by omega
  | n + 1, hc, k, h => by
    simp only [cnt] at hc
    rcases Nat.lt_or_ge k n with hk | hk
    · exact cnt_zero (by omega) k hk
    · have : k = n := by omega
      subst this
      by_cases hl : L k = true
      · exact hl
      · simp [hl] at hc

theorem cnt_set {L L' : Nat → Bool} {j : Nat} (hj : L j = false) (hj' : L' j = true) (ho : ∀ k, k ≠ j → L' k = L k) : ∀ n, cnt L n = cnt L' n + (if j < n then 1 else 0)
  | 0 => by simp [cnt]
  | n + 1 => by
    simp only [cnt, cnt_set hj hj' ho n]
    by_cases e : n = j
    · subst e; simp [hj, hj']
    · rw [ho n e]
      by_cases h : j < n
      · have h' : j < n + 1 := by omega
        simp only [h, h', if_true]; omega
      · have h' : ¬ j < n + 1 := by omega
        simp only [h, h', if_false]; omega

section drawn
variable {nt : Nat} {ops : List Oper} {l : TL} {st0 st' : St} {B : Base}

/-- the state where just the operations of L were carried out -/
structure SInv (nt : Nat) (l : TL) (st0 : St) (B : Base) (L : Nat → Bool) (a : Act) (w : World) : Prop where
  mem : ∃ φ ψ, GI B φ ψ (gsL l L (getB st0.σ) l.length) w ∧
    (∀ b, φ b ≠ none → b < st0.σ.length ∨ ∃ k o s tr s1, l[k]? = some (o, s, tr, s1) ∧ L k = true ∧ s.σ.length ≤ b ∧ b < s.σ.length + tr.nn) ∧
    ∀ t, VRel φ (tsL l L (getT st0.tm) l.length t) (a.tmps.getD t undef)
  size : a.tmps.size = nt
  defers : a.defers = []

/-- what is listed has all that must stand ahead listed, too -/
def Closed (ps : List Nat) (L : Nat → Bool) : Prop := ∀ i, L i = true → ∀ k, (ps.getD i 0).testBit k = true → L k = true

theorem ready_mask {L : Nat → Bool} (hb : backOk 0 ops = true) (hc : Closed (preds ops []) L) {j : Nat} {o : Oper} (ho : ops[j]? = some o)
    (hr : ∀ e ∈ o.after.toList, bindsA e = true → L e.on = true) : ∀ k, ((preds ops []).getD j 0).testBit k = true → L k = true := by
  intro k hk
  obtain ⟨e, he, hbe, h⟩ := (mask_spec hb ho k).mp hk
  rcases h with rfl | h
  · exact hr e he hbe
  · exact hc e.on (hr e he hbe) k h

theorem binds_eq (e : Edge) : Region.binds .any e = bindsA e := by
  unfold Region.binds bindsA
  cases e.ground <;> rfl

/-- one operation of an order -/
theorem drawn_step (hrun : Runs P nt ops ops st0 l st') (hback : backOk 0 ops = true) (hslots : slotsOk ops (preds ops []) ops 0 = true) (hord : orderOk (preds ops []) (entries 0 l).reverse = true)
    (hm : B.m ≤ st0.σ.length) {L L' : Nat → Bool} (hcl : Closed (preds ops []) L) {j : Nat} {o : Oper} (hj : ops[j]? = some o) (hLj : L j = false) (hL'j : L' j = true) (hL' : ∀ k, k ≠ j → L' k = L k)
    (hr : ∀ e ∈ o.after.toList, bindsA e = true → L e.on = true) {a : Act} {w : World} (hs : SInv nt l st0 B L a w) {K : Act → World → Prop} {Q : Exit → Act → World → Prop}
    (hk : ∀ a' w', SInv nt l st0 B L' a' w' → K a' w') : wpOp P ops.toArray Q j K a w := by
  have hlen := Runs.len hrun
  have hlt : j < l.length := by rw [hlen]; exact (List.getElem?_eq_some_iff.mp hj).1
  obtain ⟨⟨o', s, tr, s1⟩, hlj⟩ : ∃ x, l[j]? = some x := ⟨_, List.getElem?_eq_getElem hlt⟩
  obtain ⟨h1, h2, h3, hso⟩ := (Runs.at hrun).1 j o' s tr s1 hlj
  rw [hj] at h1; injection h1 with h1; subst h1
  obtain ⟨⟨φ, ψ, hg, hdom, htm⟩, hsz, hdf⟩ := hs
  have hmask := ready_mask hback hcl hj hr
  obtain ⟨hall1, hall2⟩ := ts_all hrun j (by omega)
  obtain ⟨hnext1, hnext2⟩ := ts_all hrun (j + 1) (by omega)
  -- slots
  have uniq : ∀ k t, dstAt l k t → writerOf t ops 0 = some k := by
    rintro k t ⟨o2, s2, tr2, s12, hk2, hd2⟩
    have := ((Runs.at hrun).1 k o2 s2 tr2 s12 hk2).1
    simpa using (slotsOk_get ops ops (preds ops []) 0 k o2 hslots this).2 t hd2
  have hnames := (slotsOk_get ops ops (preds ops []) 0 j o hslots hj).1
  rw [Nat.zero_add] at hnames
  have named : ∀ t, namedBy ops o t → tsL l L (getT st0.tm) l.length t = getT s.tm t := by
    intro t ht
    rw [h2, ← hall1 t]
    have hmem : t ∈ namesOf ops o := by
      unfold namesOf
      rcases ht with ht | ⟨g, want, hgd, hdo⟩
      · refine List.mem_append_right _ ?_
        simp only [List.mem_filterMap]
        exact ⟨.tmp t, ht, rfl⟩
      · refine List.mem_append_left _ ?_
        simp [hgd, hdo]
    have hn := namesOk_get _ hnames t hmem
    refine tsL_at (fun k hk hd => ?_) (fun k hk hd => ?_) _ (by omega)
    · rw [uniq k t hd] at hn
      simp only at hn
      rcases hn with ⟨_, hb⟩ | ⟨hb, _⟩
      · exact ⟨hmask k hb, rfl⟩
      · omega
    · rw [uniq k t hd] at hn
      simp only at hn
      rcases hn with ⟨hb, _⟩ | ⟨_, hb⟩
      · omega
      · cases hLk : L k with
        | false => rfl
        | true => have := hcl k hLk j hb; rw [hLj] at this; cases this
  -- blocks
  have apart : ∀ b, (b ∈ tr.rd ∨ b ∈ tr.wr) → ∀ k, k ≠ j → wrAt l k b → (k < j → L k = true) ∧ (j ≤ k → L k = false) := by
    rintro b hb k hkj ⟨o2, s2, tr2, s12, hk2, hw2⟩
    have hne : tr.rd ≠ [] ∨ tr.wr ≠ [] := by
      rcases hb with h | h
      · left; intro e; rw [e] at h; simp at h
      · right; intro e; rw [e] at h; simp at h
    have hne2 : tr2.rd ≠ [] ∨ tr2.wr ≠ [] := .inr (by intro e; rw [e] at hw2; simp at hw2)
    have hp := List.pairwise_reverse.mp (orderOk_spec _ _ hord)
    refine ⟨fun hlt' => ?_, fun hge => ?_⟩
    · have := entry_pair l 0 k j _ _ _ _ _ _ _ _ hp hlt' hk2 hlj hne2 hne
      simp only [Nat.zero_add] at this
      refine hmask k (this ?_)
      simp only [clash, Bool.or_eq_true, meets_spec]
      rcases hb with h | h
      · exact .inr ⟨b, h, hw2⟩
      · exact .inl (.inr ⟨b, h, hw2⟩)
    · have hgt : j < k := by omega
      have := entry_pair l 0 j k _ _ _ _ _ _ _ _ hp hgt hlj hk2 hne hne2
      simp only [Nat.zero_add] at this
      have hb' : ((preds ops []).getD k 0).testBit j = true := by
        refine this ?_
        simp only [clash, Bool.or_eq_true, meets_spec]
        rcases hb with h | h
        · exact .inl (.inl ⟨b, hw2, h⟩)
        · exact .inl (.inr ⟨b, hw2, h⟩)
      cases hLk : L k with
      | false => rfl
      | true => have := hcl k hLk j hb'; rw [hLj] at this; cases this
  have blocks : ∀ b, (b ∈ tr.rd ∨ b ∈ tr.wr) → gsL l L (getB st0.σ) l.length b = getB s.σ b := by
    intro b hb
    rw [h2, ← hall2 b]
    refine gsL_at (fun k hk hd => ⟨(apart b hb k (by omega) hd).1 hk, rfl⟩) (fun k hk hd => ?_) _ (by omega)
    by_cases e : k = j
    · subst e; exact hLj
    · exact (apart b hb k e hd).2 hk
  have hlive := getB_live_lt s.σ
  -- the new ids
  have newin : ∀ b, s.σ.length ≤ b → b < s.σ.length + tr.nn → b ∈ tr.wr := by
    intro b hb1 hb2
    cases hex : tr.exec with
    | true =>
      obtain ⟨p, _, hp⟩ := hso.yes hex
      exact (hp.frame hlive).2.1 b hb1 hb2
    | false => have := (hso.no hex).2.2.2.2; omega
  have hmono0 : st0.σ.length ≤ s.σ.length := by rw [h2]; exact len_mono hrun 0 j (by omega) (by omega)
  have fresh : ∀ b, s.σ.length ≤ b → b < s.σ.length + tr.nn → φ b = none ∧ gsL l L (getB st0.σ) l.length b = .dead := by
    intro b hb1 hb2
    refine ⟨?_, by rw [blocks b (.inr (newin b hb1 hb2))]; exact getB_past _ _ hb1⟩
    cases hφ : φ b with
    | none => rfl
    | some Lc =>
      exfalso
      rcases hdom b (by rw [hφ]; simp) with h | ⟨k, o2, s2, tr2, s12, hk2, hLk, hb3, hb4⟩
      · omega
      · obtain ⟨_, e2, e3, hso2⟩ := (Runs.at hrun).1 k o2 s2 tr2 s12 hk2
        have hkl := (List.getElem?_eq_some_iff.mp hk2).1
        have hl2 := hso2.len
        have hl1 := hso.len
        rcases Nat.lt_trichotomy k j with hlt' | rfl | hgt
        · have := len_mono hrun (k + 1) j (by omega) (by omega)
          rw [← e3, ← h2, hl2] at this; omega
        · rw [hLj] at hLk; cases hLk
        · have := len_mono hrun (j + 1) k (by omega) (by omega)
          rw [← h3, ← e2, hl1] at this; omega
  -- the memory behind it
  have after : ∀ b, gsL l L' (getB st0.σ) l.length b = if b ∈ tr.wr then getB s1.σ b else gsL l L (getB st0.σ) l.length b := by
    intro b
    by_cases hb : b ∈ tr.wr
    · rw [if_pos hb, h3, ← hnext2 b]
      refine gsL_at (fun k hk hd => ⟨?_, rfl⟩) (fun k hk hd => ?_) _ (by omega)
      · by_cases e : k = j
        · subst e; exact hL'j
        · rw [hL' k e]; exact (apart b (.inr hb) k e hd).1 (by omega)
      · rw [hL' k (by omega)]; exact (apart b (.inr hb) k (by omega) hd).2 (by omega)
    · rw [if_neg hb]
      have key : ∀ m, gsL l L' (getB st0.σ) m b = gsL l L (getB st0.σ) m b := by
        intro m
        induction m with
        | zero => rfl
        | succ m ih =>
          simp only [gsL]
          split
          · rename_i o2 s2 tr2 s12 hm2
            by_cases e : m = j
            · subst e
              rw [hlj] at hm2; injection hm2 with hm2
              injection hm2 with _ hm2; injection hm2 with _ hm2; injection hm2 with hm2 _
              subst hm2
              simp [hb, ih]
            · rw [hL' m e, ih]
          · exact ih
      exact key _
  have afterT : ∀ t, tsL l L' (getT st0.tm) l.length t = if o.dst = some t then tr.v else tsL l L (getT st0.tm) l.length t := by
    intro t
    by_cases hd : o.dst = some t
    · rw [if_pos hd]
      have hself : dstAt l j t := ⟨o, s, tr, s1, hlj, hd⟩
      have only : ∀ k, dstAt l k t → k = j := fun k hk => by
        have := uniq k t hk; rw [uniq j t hself] at this; exact (Option.some.inj this).symm
      rw [tsL_at (L' := allL) (j := j + 1) (fun k hk hdk => ⟨by rw [only k hdk]; exact hL'j, rfl⟩) (fun k hk hdk => by have := only k hdk; omega) _ (by omega), hnext1 t, ← h3, hso.tm t, if_pos hd]
    · rw [if_neg hd]
      have key : ∀ m, tsL l L' (getT st0.tm) m t = tsL l L (getT st0.tm) m t := by
        intro m
        induction m with
        | zero => rfl
        | succ m ih =>
          simp only [tsL]
          split
          · rename_i o2 s2 tr2 s12 hm2
            by_cases e : m = j
            · subst e
              rw [hlj] at hm2; injection hm2 with hm2
              injection hm2 with hm2 _
              subst hm2
              simp [hd, ih]
            · rw [hL' m e, ih]
          · exact ih
      exact key _
  have eG : gsL l L' (getB st0.σ) l.length = fun b => if b ∈ tr.wr then getB s1.σ b else gsL l L (getB st0.σ) l.length b := funext after
  refine wpOp_of hso hj hg htm named hsz (n := s.σ.length) (by omega) fresh (G' := gsL l L' (getB st0.σ) l.length) (fun p hex hp => ?_) (fun hex => ?_) fun φ' ψ' w' cv hg' he hb hcv => ?_
  · rw [eG]
    exact hp.local hlive fun b hb => blocks b (hb.imp id (·.1))
  · rw [eG, (hso.no hex).2.2.2.1]; simp
  · refine hk _ w' ⟨⟨φ', ψ', hg', fun b h => ?_, fun t => ?_⟩, by rw [put_size]; exact hsz, by rw [put_defers]; exact hdf⟩
    · rcases hb b h with h | h
      · rcases hdom b h with h | ⟨k, o2, s2, tr2, s12, hk2, hLk, hb3, hb4⟩
        · exact .inl h
        · refine .inr ⟨k, o2, s2, tr2, s12, hk2, ?_, hb3, hb4⟩
          by_cases e : k = j
          · subst e; exact hL'j
          · rw [hL' k e]; exact hLk
      · exact .inr ⟨j, o, s, tr, s1, hlj, hL'j, h.1, h.2⟩
    · rw [afterT t]; exact tm_put hso hsz he hcv htm t

theorem drawn_any (hrun : Runs P nt ops ops st0 l st') (hback : backOk 0 ops = true) (hslots : slotsOk ops (preds ops []) ops 0 = true) (hord : orderOk (preds ops []) (entries 0 l).reverse = true)
    (hm : B.m ≤ st0.σ.length) {Q : Exit → Act → World → Prop} (hQ : ∀ a w, StRel B nt st' a w → Q .normal a w) :
    ∀ (fuel : Nat) (listed : Array Bool) (a : Act) (w : World), listed.size = ops.length → cnt (fun i => listed.getD i true) ops.length = fuel → Closed (preds ops []) (fun i => listed.getD i true) → SInv nt l st0 B (fun i => listed.getD i true) a w →
      wpAny P .any ops.toArray Q fuel listed a w := by
  have hlen := Runs.len hrun
  -- all done
  have done : ∀ (listed : Array Bool) (a : Act) (w : World), (∀ k, k < ops.length → listed.getD k true = true) → SInv nt l st0 B (fun i => listed.getD i true) a w → Q .normal a w := by
    intro listed a w hall hs
    obtain ⟨⟨φ, ψ, hg, hdom, htm⟩, hsz, hdf⟩ := hs
    obtain ⟨h1, h2⟩ := ts_all hrun l.length (Nat.le_refl _)
    have hend := (Runs.at hrun).2
    have eT : ∀ t, tsL l (fun i => listed.getD i true) (getT st0.tm) l.length t = getT st'.tm t := by
      intro t
      rw [tsL_at (L' := allL) (j := l.length) (fun k hk _ => ⟨hall k (by omega), rfl⟩) (fun k hk hd => ?_) _ (Nat.le_refl _), h1 t, hend]
      obtain ⟨o, s, tr, s1, hk2, _⟩ := hd
      have := (List.getElem?_eq_some_iff.mp hk2).1; omega
    have eG : gsL l (fun i => listed.getD i true) (getB st0.σ) l.length = getB st'.σ := by
      funext b
      rw [gsL_at (L' := allL) (j := l.length) (fun k hk _ => ⟨hall k (by omega), rfl⟩) (fun k hk hd => ?_) _ (Nat.le_refl _), h2 b, hend]
      obtain ⟨o, s, tr, s1, hk2, _⟩ := hd
      have := (List.getElem?_eq_some_iff.mp hk2).1; omega
    have hmono : ∀ k, k ≤ l.length → (stAt st0 l k).σ.length ≤ st'.σ.length := fun k hk => by rw [← hend]; exact len_mono hrun k l.length hk (Nat.le_refl _)
    rw [eG] at hg
    refine hQ a w ⟨⟨φ, ψ, hg, fun b hb => ?_, fun t => by rw [← eT t]; exact htm t⟩, hsz, hdf, Nat.le_trans hm (hmono 0 (by omega))⟩
    rcases hdom b hb with h | ⟨k, o, s, tr, s1, hk2, _, h3, h4⟩
    · exact Nat.lt_of_lt_of_le h (hmono 0 (by omega))
    · obtain ⟨_, e2, e3, hso⟩ := (Runs.at hrun).1 k o s tr s1 hk2
      have hkl := (List.getElem?_eq_some_iff.mp hk2).1
      have := hmono (k + 1) (by omega)
      rw [← e3, hso.len] at this; omega
  -- the first that is still to come may be taken
  have first : ∀ (listed : Array Bool), listed.size = ops.length → Region.ready .any ops.toArray listed = [] → ∀ k, k < ops.length → listed.getD k true = true := by
    intro listed hsz hr k
    induction k using Nat.strongRecOn with
    | _ k ih =>
      intro hk
      cases hb : listed.getD k true with
      | true => rfl
      | false =>
        exfalso
        have hmem : k ∈ Region.ready .any ops.toArray listed := by
          rw [mem_ready]
          refine ⟨hb, ops[k], by simp [hk], fun e he hbe => ?_⟩
          have hlt := backOk_get ops 0 k ops[k] hback (by simp [hk]) e (by simpa using he) (by rw [← binds_eq]; exact hbe)
          have := ih e.on (by omega) (by omega)
          rw [Array.getD_eq_getD_getElem?] at this ⊢
          rw [Array.getElem?_eq_getElem (by omega)] at this ⊢
          exact this
        rw [hr] at hmem; simp at hmem
  intro fuel
  induction fuel with
  | zero =>
    intro listed a w hsz hc hcl hs
    have hall := cnt_zero hc
    refine ⟨?_, done listed a w hall hs⟩
    apply List.eq_nil_iff_forall_not_mem.mpr
    intro j hj
    rw [mem_ready] at hj
    obtain ⟨h0, o, ho, _⟩ := hj
    have hjl : j < ops.length := by
      have := (Array.getElem?_eq_some_iff.mp ho).1; simpa using this
    have h1 := hall j hjl
    rw [h0] at h1; cases h1
  | succ fuel ih =>
    intro listed a w hsz hc hcl hs
    refine ⟨fun hr => done listed a w (first listed hsz hr) hs, fun j hj => ?_⟩
    rw [mem_ready] at hj
    obtain ⟨h0, o, ho, hedge⟩ := hj
    have ho' : ops[j]? = some o := by simpa using ho
    have hjl : j < ops.length := (List.getElem?_eq_some_iff.mp ho').1
    have hset : ∀ k, (listed.setIfInBounds j true).getD k true = if k = j then true else listed.getD k true := by
      intro k
      by_cases e : k = j
      · subst e
        rw [if_pos rfl, Array.getD_eq_getD_getElem?]
        simp [hsz, hjl]
      · rw [if_neg e]; exact getD_set_ne true (Ne.symm e)
    have hr : ∀ e ∈ o.after.toList, bindsA e = true → listed.getD e.on true = true := by
      intro e he hbe
      have h1 := hedge e (by simpa using he) (by rw [binds_eq]; exact hbe)
      have hlt := backOk_get ops 0 j o hback ho' e he hbe
      rw [Array.getD_eq_getD_getElem?] at h1 ⊢
      rw [Array.getElem?_eq_getElem (by omega)] at h1 ⊢
      exact h1
    have hL'j : (fun i => (listed.setIfInBounds j true).getD i true) j = true := by simp only [hset]; simp
    have hL' : ∀ k, k ≠ j → (fun i => (listed.setIfInBounds j true).getD i true) k = (fun i => listed.getD i true) k := fun k e => by simp only [hset]; simp [e]
    refine drawn_step hrun hback hslots hord hm hcl ho' h0 hL'j hL' hr hs fun a' w' hs' => ?_
    refine ih _ a' w' (by simpa using hsz) ?_ ?_ hs'
    · have := cnt_set (j := j) h0 hL'j hL' ops.length
      rw [if_pos hjl, hc] at this; omega
    · intro i hi k hk
      have hmask := ready_mask hback hcl ho' hr
      by_cases e : i = j
      · subst e
        have := hmask k hk
        simp only [hset]
        split
        · rfl
        · exact this
      · have hi' : listed.getD i true = true := by have := hL' i e; simp only at this; rw [← this]; exact hi
        have := hcl i hi' k hk
        simp only [hset]
        split
        · rfl
        · exact this
end drawn

/-- a region, drawn or not -/
theorem region_sound (hti : TyOk P ti) (hmix : P.follows .mixedOrders = true) {Γ : Env} (hΓ : EnvOk P Γ) {R : Type} {nt id : Nat} {ops : Array Oper} {draw : Bool} {st : St} {K : St → Option R} {r : R}
    (h : runOps ti Γ nt ops.toList ops.toList 0 st [] (fun st' log => bif draw then (bif drawOk ops.toList log then K st' else none) else K st') = some r) :
    ∃ st' l, K st' = some r ∧ Runs P nt ops.toList ops.toList st l st' ∧ ∀ (B : Base) (a : Act) (w : World), StRel B nt st a w → ∀ Q : Exit → Act → World → Prop, (∀ a' w', StRel B nt st' a' w' → Q .normal a' w') → (Code.region id ops draw).wp P Q a w := by
  obtain ⟨st', l, hk, hrun⟩ := runOps_trace (P := P) hti hΓ _ _ _ _ _ _ h
  have harr : ops.toList.toArray = ops := by simp
  cases draw with
  | false =>
    simp only [cond_false] at hk
    refine ⟨st', l, hk, hrun, fun B a w hst Q hQ => wp_region ?_⟩
    have := runs_text (ops := ops.toList) (B := B) (Q := Q) hQ ops.toList st l [] rfl hrun a w hst
    rw [harr] at this
    simpa [List.range_eq_range'] using this
  | true =>
    simp only [cond_true] at hk
    have hd := (of_cond hk).1; replace hk := (of_cond hk).2
    unfold drawOk at hd
    simp only [Bool.and_eq_true] at hd
    obtain ⟨⟨hback, hslots⟩, hord⟩ := hd
    rw [List.append_nil] at hord
    refine ⟨st', l, hk, hrun, fun B a w hst Q hQ => wp_region_any hmix ?_⟩
    have hmem := hst.mem
    obtain ⟨φ, ψ, hg, hdom, htm⟩ := hmem
    have hrep : ∀ i, i < ops.toList.length → (Array.replicate ops.size false).getD i true = false := by
      intro i hi
      rw [Array.getD_eq_getD_getElem?]
      have : i < ops.size := by simpa using hi
      simp [this]
    have hg' : GI B φ ψ (getB st.σ) { w with drawn := w.drawn + 1 } := ⟨⟨fun b => (hg.s.rel b).keep (Ext.refl φ) (fun c _ => rfl), hg.s.disj⟩, hg.own, hg.frame, hg.grow, hg.keep, hg.ro, hg.ro', hg.dd, hg.rq, hg.out.trans ⟨rfl, rfl, rfl⟩⟩
    have := drawn_any (B := B) (Q := Q) hrun hback hslots hord hst.len hQ ops.toList.length (Array.replicate ops.size false) a { w with drawn := w.drawn + 1 } (by simp) ?_ ?_ ?_
    · rw [harr] at this
      simpa using this
    · have : ∀ n, n ≤ ops.toList.length → cnt (fun i => (Array.replicate ops.size false).getD i true) n = n := by
        intro n
        induction n with
        | zero => intro _; rfl
        | succ n ih => intro hn; simp only [cnt, ih (by omega), hrep n (by omega)]; simp
      exact this _ (Nat.le_refl _)
    · intro i hi k hk
      exfalso
      rcases Nat.lt_or_ge i ops.toList.length with h | h
      · simp only [hrep i h] at hi; cases hi
      · have h0 : (preds ops.toList []).getD i 0 = 0 := by
          obtain ⟨hl, _, _⟩ := preds_get ops.toList [] 0
          rw [List.getD_eq_getElem?_getD, List.getElem?_eq_none (by rw [hl]; simpa using h)]; rfl
        rw [h0] at hk; simp at hk
    · have hlen := Runs.len hrun
      have eT : ∀ t, tsL l (fun i => (Array.replicate ops.size false).getD i true) (getT st.tm) l.length t = getT st.tm t := by
        intro t
        rw [tsL_at (L' := allL) (j := 0) (fun k hk _ => by omega) (fun k _ hd => ?_) _ (by omega)]; rfl
        obtain ⟨o, s, tr, s1, hk2, _⟩ := hd
        exact hrep k (by have := (List.getElem?_eq_some_iff.mp hk2).1; omega)
      have eG : gsL l (fun i => (Array.replicate ops.size false).getD i true) (getB st.σ) l.length = getB st.σ := by
        funext b
        rw [gsL_at (L' := allL) (j := 0) (fun k hk _ => by omega) (fun k _ hd => ?_) _ (by omega)]; rfl
        obtain ⟨o, s, tr, s1, hk2, _⟩ := hd
        exact hrep k (by have := (List.getElem?_eq_some_iff.mp hk2).1; omega)
      exact ⟨⟨φ, ψ, by rw [eG]; exact hg', fun b hb => .inl (hdom b hb), fun t => by rw [eT t]; exact htm t⟩, hst.size, hst.defers⟩
end Go.Proofs.YtdgipcjigbagfaaGreat.AB
