/- Rings: buckets tell what was put. -/
import Derived.Test.YtfoaihjkmfhaoaaPlRing2
namespace Go.Proofs.Ytfoaihjkmfhaoaa.AB
set_option linter.unusedVariables false
set_option linter.unusedSimpArgs false

/-- more than 64 bits hold -/
def over (s : Int) : Bool := decide (M63 < s)

/-- what is put together of the records whose bucket is asked for -/
def wsum (wt : Int × Int → Int) (g : Int) (W : Int → Bool) : List (Int × Int) → Int
  | [] => 0
  | x :: r => (if W (bk g x) = true then wt x else 0) + wsum wt g W r
abbrev vs (g : Int) (W : Int → Bool) (R : List (Int × Int)) : Int := wsum (fun x => x.2) g W R
abbrev ns (g : Int) (W : Int → Bool) (R : List (Int × Int)) : Int := wsum (fun _ => 1) g W R
def at_ (a : Int) : Int → Bool := fun b => decide (b = a)

theorem wsum_append (wt : Int × Int → Int) (g : Int) (W : Int → Bool) : ∀ (R R' : List (Int × Int)), wsum wt g W (R ++ R') = wsum wt g W R + wsum wt g W R'
  | [], R' => by simp [wsum]
  | x :: R, R' => by simp only [List.cons_append, wsum, wsum_append wt g W R R']; omega
theorem wsum_congr (wt : Int × Int → Int) (g : Int) {W W' : Int → Bool} : ∀ {R : List (Int × Int)}, (∀ x ∈ R, W (bk g x) = W' (bk g x)) → wsum wt g W R = wsum wt g W' R
  | [], _ => rfl
  | x :: R, h => by
    simp only [wsum]
    rw [h x (by simp), wsum_congr wt g (fun y hy => h y (by simp [hy]))]
theorem wsum_filter (wt : Int × Int → Int) (g : Int) (W K : Int → Bool) : ∀ (R : List (Int × Int)), wsum wt g W (R.filter fun x => K (bk g x)) = wsum wt g (fun a => W a && K a) R
  | [] => rfl
  | x :: R => by
    have ih := wsum_filter wt g W K R
    rw [List.filter_cons]
    cases hk : K (bk g x) with
    | true => simp only [if_true, wsum, ih, hk, Bool.and_true]
    | false => simp only [Bool.false_eq_true, if_false, wsum, ih, hk, Bool.and_false]; simp
theorem wsum_nn {wt : Int × Int → Int} (g : Int) (W : Int → Bool) : ∀ {R : List (Int × Int)}, (∀ x ∈ R, 0 ≤ wt x) → 0 ≤ wsum wt g W R
  | [], _ => Int.le_refl _
  | x :: R, h => by
    have := wsum_nn g W (R := R) (fun y hy => h y (by simp [hy]))
    have h1 := h x (by simp)
    simp only [wsum]; split <;> omega
theorem ns_le (g : Int) (W : Int → Bool) : ∀ (R : List (Int × Int)), ns g W R ≤ R.length
  | [] => Int.le_refl _
  | x :: R => by
    have := ns_le g W R
    simp only [ns, wsum, List.length_cons] at this ⊢; split <;> omega
theorem ns_all (g : Int) : ∀ (R : List (Int × Int)), ns g (fun _ => true) R = R.length
  | [] => rfl
  | x :: R => by
    have := ns_all g R
    simp only [ns, wsum, List.length_cons, if_true] at this ⊢; omega
theorem wsum_zero {wt : Int × Int → Int} {g : Int} {W : Int → Bool} : ∀ {R : List (Int × Int)}, (∀ x ∈ R, W (bk g x) = false) → wsum wt g W R = 0
  | [], _ => rfl
  | x :: R, h => by
    simp only [wsum]
    rw [h x (by simp), wsum_zero (fun y hy => h y (by simp [hy]))]; simp
theorem ns_pos {g : Int} {W : Int → Bool} : ∀ {R : List (Int × Int)} {x : Int × Int}, x ∈ R → W (bk g x) = true → 1 ≤ ns g W R
  | [], x, h, _ => by cases h
  | y :: R, x, h, hw => by
    have hnn : 0 ≤ ns g W R := wsum_nn g W (fun _ _ => by omega)
    simp only [ns, wsum]
    rcases List.mem_cons.mp h with e | e
    · subst e; rw [if_pos hw]; simp only [ns] at hnn; omega
    · have := ns_pos e hw; simp only [ns] at this; split <;> omega

/-- what is put together of buckets -/
def bsum (h : Bk → Int) (W : Int → Bool) : List Bk → Int
  | [] => 0
  | b :: r => (if W b.1 = true then h b else 0) + bsum h W r
theorem bsum_add (h h' : Bk → Int) (W : Int → Bool) : ∀ (bs : List Bk), bsum (fun b => h b + h' b) W bs = bsum h W bs + bsum h' W bs
  | [] => rfl
  | b :: bs => by simp only [bsum, bsum_add h h' W bs]; split <;> omega
theorem bsum_zero (W : Int → Bool) : ∀ (bs : List Bk), bsum (fun _ => 0) W bs = 0
  | [] => rfl
  | b :: bs => by simp only [bsum, bsum_zero W bs]; split <;> rfl
theorem bsum_congr {h h' : Bk → Int} (W : Int → Bool) : ∀ {bs : List Bk}, (∀ b ∈ bs, h b = h' b) → bsum h W bs = bsum h' W bs
  | [], _ => rfl
  | b :: bs, e => by
    have h1 := bsum_congr W (h := h) (h' := h') (bs := bs) (fun b' hb => e b' (List.mem_cons_of_mem _ hb))
    simp only [bsum, e b (by simp), h1]
theorem bsum_ind_no (a c : Int) (W : Int → Bool) : ∀ (bs : List Bk), (∀ b ∈ bs, b.1 ≠ a) → bsum (fun b => if a = b.1 then c else 0) W bs = 0
  | [], _ => rfl
  | b :: bs, h => by
    have h1 := h b (by simp)
    simp only [bsum, bsum_ind_no a c W bs (fun b' hb => h b' (by simp [hb])), if_neg (Ne.symm h1)]
    split <;> rfl
theorem bsum_ind (a c : Int) (W : Int → Bool) : ∀ (bs : List Bk), (bs.map (·.1)).Nodup → (∃ b ∈ bs, b.1 = a) → bsum (fun b => if a = b.1 then c else 0) W bs = if W a = true then c else 0
  | [], _, h => by obtain ⟨b, hb, _⟩ := h; cases hb
  | b :: bs, hn, h => by
    rw [List.map_cons, List.nodup_cons] at hn
    simp only [bsum]
    by_cases e : b.1 = a
    · have hno : ∀ b' ∈ bs, b'.1 ≠ a := fun b' hb e' => hn.1 (List.mem_map.mpr ⟨b', hb, e'.trans e.symm⟩)
      rw [bsum_ind_no a c W bs hno, e]; simp
    · obtain ⟨b', hb, e'⟩ := h
      rcases List.mem_cons.mp hb with h1 | h1
      · subst h1; exact absurd e' e
      · rw [bsum_ind a c W bs hn.2 ⟨b', h1, e'⟩, if_neg (Ne.symm e)]; simp
/-- bucket by bucket, or record by record -/
theorem bsum_wsum (wt : Int × Int → Int) (g : Int) (W : Int → Bool) {bs : List Bk} (hn : (bs.map (·.1)).Nodup) : ∀ {R : List (Int × Int)}, (∀ x ∈ R, ∃ b ∈ bs, b.1 = bk g x) →
    bsum (fun b => wsum wt g (at_ b.1) R) W bs = wsum wt g W R
  | [], _ => bsum_zero W bs
  | x :: R, h => by
    simp only [wsum]
    rw [bsum_add (fun b => if at_ b.1 (bk g x) = true then wt x else 0), bsum_wsum wt g W hn (fun y hy => h y (by simp [hy]))]
    congr 1
    rw [← bsum_ind (bk g x) (wt x) W bs hn (h x (by simp))]
    refine bsum_congr W fun b _ => ?_
    unfold at_; simp

/-- records that a ring takes, as numbers of 64 bits -/
def Tk (x : Int × Int) : Prop := Takes x ∧ x.2 ≤ M63

/-- buckets that tell what was put -/
structure Same (g : Int) (bs : List Bk) (R : List (Int × Int)) : Prop where
  nd : (bs.map (·.1)).Nodup
  sum : ∀ b ∈ bs, b.2.1 = min M63 (vs g (at_ b.1) R)
  num : ∀ b ∈ bs, b.2.2.1 = ns g (at_ b.1) R
  cut : ∀ b ∈ bs, b.2.2.2 = over (vs g (at_ b.1) R)
  all : ∀ x ∈ R, ∃ b ∈ bs, b.1 = bk g x
  some_ : ∀ b ∈ bs, ∃ x ∈ R, bk g x = b.1

theorem Same.nil (g : Int) : Same g [] [] := ⟨List.nodup_nil, fun _ h => (by cases h), fun _ h => (by cases h), fun _ h => (by cases h), fun _ h => (by cases h), fun _ h => (by cases h)⟩

theorem Same.atOk {g : Int} {bs : List Bk} {R : List (Int × Int)} (h : Same g bs R) (g1 : 1 ≤ g) (ht : ∀ x ∈ R, Tk x) : AtOk bs := by
  intro b hb
  obtain ⟨x, hx, e⟩ := h.some_ b hb
  rw [← e]; exact bk_b g1 (ht x hx).1
theorem Same.nOk {g : Int} {bs : List Bk} {R : List (Int × Int)} (h : Same g bs R) (hl : R.length ≤ 1000000) : NOk bs := by
  intro b hb
  rw [h.num b hb]
  have := ns_le g (at_ b.1) R
  exact ⟨wsum_nn g _ (fun _ _ => by omega), by omega⟩
theorem Same.len {g : Int} {bs : List Bk} {R : List (Int × Int)} (h : Same g bs R) : bs.length ≤ R.length := by
  have h1 := bsum_wsum (fun _ => 1) g (fun _ => true) h.nd h.all
  have h2 := ns_all g R
  simp only [ns] at h2
  rw [h2] at h1
  have key : ∀ (l : List Bk), (∀ b ∈ l, b ∈ bs) → (l.length : Int) ≤ bsum (fun b => wsum (fun _ => 1) g (at_ b.1) R) (fun _ => true) l := by
    intro l
    induction l with
    | nil => intro _; exact Int.le_refl _
    | cons b l ih =>
      intro hm
      obtain ⟨x, hx, e⟩ := h.some_ b (hm b (by simp))
      have hp := ns_pos (g := g) (W := at_ b.1) hx (by unfold at_; simp [e])
      have := ih fun b' hb' => hm b' (by simp [hb'])
      simp only [ns] at hp
      simp only [bsum, List.length_cons, if_true]; omega
  have := key bs (fun _ h => h)
  omega

theorem Kp_eq (g n e : Int) : Kp g n e = fun x => (fun a => decide (e - a < n)) (bk g x) := rfl

theorem Same.forget {g : Int} {bs : List Bk} {R : List (Int × Int)} (h : Same g bs R) (n nw : Int) : Same g (keepB n nw bs) (R.filter (Kp g n nw)) := by
  have hw : ∀ (wt : Int × Int → Int) (b : Bk), ¬ n ≤ nw - b.1 → wsum wt g (at_ b.1) (R.filter (Kp g n nw)) = wsum wt g (at_ b.1) R := by
    intro wt b hb
    have e0 := wsum_filter wt g (at_ b.1) (fun a => decide (nw - a < n)) R
    have e1 : R.filter (Kp g n nw) = R.filter (fun x => (fun a => decide (nw - a < n)) (bk g x)) := rfl
    rw [e1, e0]
    refine wsum_congr wt g fun x _ => ?_
    unfold at_
    by_cases e : bk g x = b.1
    · have : nw - b.1 < n := by omega
      simp [e, this]
    · simp [e]
  refine ⟨h.nd.sublist ((List.filter_sublist).map _), fun b hb => ?_, fun b hb => ?_, fun b hb => ?_, fun x hx => ?_, fun b hb => ?_⟩
  · obtain ⟨h1, h2⟩ := keepB_mem hb
    simp only [vs]; rw [hw _ b h2]; exact h.sum b h1
  · obtain ⟨h1, h2⟩ := keepB_mem hb
    simp only [ns]; rw [hw _ b h2]; exact h.num b h1
  · obtain ⟨h1, h2⟩ := keepB_mem hb
    rw [h.cut b h1]; exact congrArg over (hw _ b h2).symm
  · obtain ⟨h1, h2⟩ := List.mem_filter.mp hx
    obtain ⟨b, hb, e⟩ := h.all x h1
    refine ⟨b, ?_, e⟩
    unfold Kp at h2
    have h2 := of_decide_eq_true h2
    unfold keepB gone
    exact List.mem_filter.mpr ⟨hb, by rw [e]; simp; omega⟩
  · obtain ⟨h1, h2⟩ := keepB_mem hb
    obtain ⟨x, hx, e⟩ := h.some_ b h1
    exact ⟨x, List.mem_filter.mpr ⟨hx, by unfold Kp; rw [e]; simp; omega⟩, e⟩

theorem putB_mem (a v : Int) : ∀ (bs : List Bk), (bs.map (·.1)).Nodup → ∀ b ∈ putB a v bs, (b ∈ bs ∧ b.1 ≠ a) ∨ (∃ b0 ∈ bs, b0.1 = a ∧ b = addTo b0 v) ∨ ((∀ b0 ∈ bs, b0.1 ≠ a) ∧ b = addTo (a, 0, 0, false) v)
  | [], _, b, h => by simp [putB] at h; exact .inr (.inr ⟨fun _ h => (by cases h), h⟩)
  | b0 :: bs, hn, b, h => by
    rw [List.map_cons, List.nodup_cons] at hn
    simp only [putB] at h
    by_cases e : b0.1 = a
    · rw [if_pos e] at h
      rcases List.mem_cons.mp h with h | h
      · exact .inr (.inl ⟨b0, by simp, e, h⟩)
      · exact .inl ⟨by simp [h], fun e' => hn.1 (List.mem_map.mpr ⟨b, h, e'.trans e.symm⟩)⟩
    · rw [if_neg e] at h
      rcases List.mem_cons.mp h with h | h
      · subst h; exact .inl ⟨by simp, e⟩
      · rcases putB_mem a v bs hn.2 b h with h1 | ⟨b1, h1, h2, h3⟩ | ⟨h1, h2⟩
        · exact .inl ⟨by simp [h1.1], h1.2⟩
        · exact .inr (.inl ⟨b1, by simp [h1], h2, h3⟩)
        · refine .inr (.inr ⟨fun b1 hb1 => ?_, h2⟩)
          rcases List.mem_cons.mp hb1 with hb1 | hb1
          · subst hb1; exact e
          · exact h1 b1 hb1
theorem putB_at (a v : Int) : ∀ (bs : List Bk), (putB a v bs).map (·.1) = if a ∈ bs.map (·.1) then bs.map (·.1) else bs.map (·.1) ++ [a]
  | [] => by simp [putB, addTo]
  | b :: bs => by
    simp only [putB]
    by_cases e : b.1 = a
    · rw [if_pos e]; simp [addTo, e]
    · rw [if_neg e, List.map_cons, putB_at a v bs]
      have : (a ∈ List.map (·.1) (b :: bs)) ↔ a ∈ bs.map (·.1) := by
        rw [List.map_cons, List.mem_cons]; exact ⟨fun h => h.resolve_left (Ne.symm e), .inr⟩
      by_cases h : a ∈ bs.map (·.1)
      · rw [if_pos h, if_pos (this.mpr h)]; rfl
      · rw [if_neg h, if_neg (fun q => h (this.mp q))]; rfl
theorem putB_old (a v : Int) : ∀ (bs : List Bk) (b : Bk), b ∈ bs → b.1 ≠ a → b ∈ putB a v bs
  | b0 :: bs, b, h, hne => by
    simp only [putB]
    by_cases e : b0.1 = a
    · rw [if_pos e]
      rcases List.mem_cons.mp h with h | h
      · subst h; exact absurd e hne
      · simp [h]
    · rw [if_neg e]
      rcases List.mem_cons.mp h with h | h
      · subst h; simp
      · simp [putB_old a v bs b h hne]

theorem addTo_ok {b : Bk} {v T : Int} (T0 : 0 ≤ T) (v0 : 0 ≤ v) (v1 : v ≤ M63) (hs : b.2.1 = min M63 T) (hc : b.2.2.2 = over (T)) :
    (addTo b v).2.1 = min M63 (T + v) ∧ (addTo b v).2.2.2 = over (T + v) := by
  have hM : (0 : Int) ≤ M63 := by unfold M63; omega
  unfold addTo over at *
  simp only
  rw [madd_nn (a := b.2.1) (b := v) (by rw [hs]; omega) (by rw [hs]; omega) v0 v1, hs, hc]
  by_cases h1 : M63 < T
  · have h2 : M63 < T + v := by omega
    by_cases h3 : M63 < min M63 T + v
    · simp [h1, h2, h3]; omega
    · simp [h1, h2, h3]; omega
  · by_cases h2 : M63 < T + v
    · have h3 : M63 < min M63 T + v := by omega
      simp [h1, h2, h3]; omega
    · have h3 : ¬ M63 < min M63 T + v := by omega
      simp [h1, h2, h3]; omega

theorem Same.put {g : Int} {bs : List Bk} {R : List (Int × Int)} (h : Same g bs R) {x : Int × Int} (hx : Tk x) (hR : ∀ y ∈ R, Tk y) : Same g (putB (bk g x) x.2 bs) (R ++ [x]) := by
  have hvn : ∀ a, 0 ≤ vs g (at_ a) R := fun a => wsum_nn g _ (fun y hy => (hR y hy).1.2)
  have hM : (0 : Int) ≤ M63 := by unfold M63; omega
  have hsn : ∀ (wt : Int × Int → Int) (a : Int), wsum wt g (at_ a) (R ++ [x]) = wsum wt g (at_ a) R + (if bk g x = a then wt x else 0) := by
    intro wt a; rw [wsum_append]; simp [wsum, at_]
  have hv0 : ∀ (wt : Int × Int → Int), (∀ b0 ∈ bs, b0.1 ≠ bk g x) → wsum wt g (at_ (bk g x)) R = 0 := by
    intro wt hno
    refine wsum_zero fun y hy => ?_
    obtain ⟨b, hb, e⟩ := h.all y hy
    have := hno b hb
    unfold at_; simp; intro e2; exact this (e.trans e2)
  have hcase := putB_mem (bk g x) x.2 bs h.nd
  refine ⟨?_, fun b hb => ?_, fun b hb => ?_, fun b hb => ?_, fun y hy => ?_, fun b hb => ?_⟩
  · rw [putB_at]
    split
    · exact h.nd
    · rename_i hno
      exact List.nodup_append.mpr ⟨h.nd, by simp, fun a ha b hb e => by simp at hb; subst hb; subst e; exact hno ha⟩
  · simp only [vs]; rw [hsn]
    rcases hcase b hb with ⟨h1, h2⟩ | ⟨b0, h1, h2, rfl⟩ | ⟨h1, rfl⟩
    · rw [if_neg (Ne.symm h2), Int.add_zero]; exact h.sum b h1
    · rw [show (addTo b0 x.2).1 = bk g x from h2, if_pos rfl, (addTo_ok (hvn b0.1) hx.1.2 hx.2 (h.sum b0 h1) (h.cut b0 h1)).1, h2]
    · rw [show (addTo (bk g x, 0, 0, false) x.2).1 = bk g x from rfl, if_pos rfl, (addTo_ok (T := 0) (by omega) hx.1.2 hx.2 (by simp; omega) (by unfold over; simp; omega)).1, hv0 _ h1]
  · simp only [ns]; rw [hsn]
    rcases hcase b hb with ⟨h1, h2⟩ | ⟨b0, h1, h2, rfl⟩ | ⟨h1, rfl⟩
    · rw [if_neg (Ne.symm h2), Int.add_zero]; exact h.num b h1
    · rw [show (addTo b0 x.2).1 = bk g x from h2, if_pos rfl, ← h2]
      show b0.2.2.1 + 1 = _
      rw [h.num b0 h1]
    · rw [show (addTo (bk g x, 0, 0, false) x.2).1 = bk g x from rfl, if_pos rfl, hv0 _ h1]; rfl
  · simp only [vs]; rw [hsn]
    rcases hcase b hb with ⟨h1, h2⟩ | ⟨b0, h1, h2, rfl⟩ | ⟨h1, rfl⟩
    · rw [if_neg (Ne.symm h2), Int.add_zero]; exact h.cut b h1
    · rw [show (addTo b0 x.2).1 = bk g x from h2, if_pos rfl, (addTo_ok (hvn b0.1) hx.1.2 hx.2 (h.sum b0 h1) (h.cut b0 h1)).2, h2]
    · rw [show (addTo (bk g x, 0, 0, false) x.2).1 = bk g x from rfl, if_pos rfl, (addTo_ok (T := 0) (by omega) hx.1.2 hx.2 (by simp; omega) (by unfold over; simp; omega)).2, hv0 _ h1]
  · have hat : ∀ a, a ∈ (putB (bk g x) x.2 bs).map (·.1) → ∃ b ∈ putB (bk g x) x.2 bs, b.1 = a := by
      intro a ha
      obtain ⟨b, hb, e⟩ := List.mem_map.mp ha
      exact ⟨b, hb, e⟩
    apply hat
    rw [putB_at]
    rcases List.mem_append.mp hy with hy | hy
    · obtain ⟨b, hb, e⟩ := h.all y hy
      have : bk g y ∈ bs.map (·.1) := List.mem_map.mpr ⟨b, hb, e⟩
      split
      · exact this
      · exact List.mem_append.mpr (.inl this)
    · simp at hy; subst hy
      split
      · assumption
      · simp
  · rcases hcase b hb with ⟨h1, h2⟩ | ⟨b0, h1, h2, rfl⟩ | ⟨h1, rfl⟩
    · obtain ⟨y, hy, e⟩ := h.some_ b h1
      exact ⟨y, List.mem_append.mpr (.inl hy), e⟩
    · exact ⟨x, by simp, h2.symm⟩
    · exact ⟨x, by simp, rfl⟩

/-- the sum over buckets -/
theorem sumS_eq (n last : Int) (T : Bk → Int) : ∀ (bs : List Bk), (∀ b ∈ bs, 0 ≤ T b ∧ b.2.1 = min M63 (T b) ∧ b.2.2.2 = over (T b)) → ∀ (Q c : Int) (ov : Bool), 0 ≤ Q →
    sumS n last (min M63 Q) c (ov || over (Q)) bs = (min M63 (Q + bsum T (inW n last) bs), c + bsum (fun b => b.2.2.1) (inW n last) bs, ov || over (Q + bsum T (inW n last) bs))
  | [], _, Q, c, ov, _ => by simp [sumS, bsum]
  | b :: bs, h, Q, c, ov, Q0 => by
    have hM : (0 : Int) ≤ M63 := by unfold M63; omega
    obtain ⟨t0, t1, t2⟩ := h b (by simp)
    have ih := sumS_eq n last T bs (fun b' hb => h b' (by simp [hb]))
    simp only [sumS, bsum]
    by_cases k : inW n last b.1 = true
    · rw [if_pos k, if_pos k, if_pos k]
      have hm := madd_nn (a := min M63 Q) (b := b.2.1) (by omega) (by omega) (by rw [t1]; omega) (by rw [t1]; omega)
      have e1 : (S.madd (min M63 Q) b.2.1).1 = min M63 (Q + T b) := by
        rw [hm, t1]; split <;> simp only <;> omega
      have e2 : (ov || over (Q) || b.2.2.2 || !decide ((S.madd (min M63 Q) b.2.1).2 = 0)) = (ov || over (Q + T b)) := by
        rw [hm, t1, t2]
        unfold over
        by_cases h1 : M63 < Q
        · have h2 : M63 < Q + T b := by omega
          simp [h1, h2]
        · by_cases h2 : M63 < T b
          · have h3 : M63 < Q + T b := by omega
            simp [h1, h2, h3]
          · by_cases h3 : M63 < Q + T b
            · have h4 : M63 < min M63 Q + min M63 (T b) := by omega
              simp [h1, h2, h3, h4]
            · have h4 : ¬ M63 < min M63 Q + min M63 (T b) := by omega
              simp [h1, h2, h3, h4]
      rw [e1, e2, ih (Q + T b) (c + b.2.2.1) ov (by omega)]
      rw [Int.add_assoc, Int.add_assoc]
    · rw [if_neg k, if_neg k, if_neg k, ih Q c ov Q0]
      simp
end Go.Proofs.Ytfoaihjkmfhaoaa.AB
