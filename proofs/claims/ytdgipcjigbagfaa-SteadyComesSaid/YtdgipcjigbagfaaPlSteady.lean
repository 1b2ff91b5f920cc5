/- A load that stays: what is decided at a tick. -/
import Derived.Test.YtdgipcjigbagfaaPlDec
import Derived.Test.YtdgipcjigbagfaaPlRings
namespace Go.Proofs.Ytdgipcjigbagfaa.AB
set_option linter.unusedVariables false
set_option linter.unusedSimpArgs false

theorem vs_const {X g : Int} {W : Int → Bool} : ∀ {R : List (Int × Int)}, (∀ y ∈ R, y.2 = X) → vs g W R = X * ns g W R
  | [], _ => by simp [vs, ns, wsum]
  | x :: R, h => by
    have ih := vs_const (X := X) (g := g) (W := W) (R := R) (fun y hy => h y (by simp [hy]))
    have hx := h x (by simp)
    unfold vs ns at ih ⊢
    simp only [wsum]
    rw [ih, Int.mul_add, hx]
    split <;> simp
theorem mn_const {w g t v : Int} {R : List (Int × Int)} (hR : ∀ y ∈ R, y.2 = v) (v0 : 0 ≤ v) (v1 : v ≤ 1000000000) (hl : R.length ≤ 70000) {x : Int × Int} (hx : x ∈ R) (hb : bk g x = t.tdiv g) (hn : 1 ≤ NB w g) : mn w g t R = v := by
  have hin : inW (NB w g) (t.tdiv g) (bk g x) = true := by unfold inW; rw [hb]; exact decide_eq_true ⟨by omega, by omega⟩
  have h1 := ns_pos (g := g) (W := inW (NB w g) (t.tdiv g)) hx hin
  have h2 := ns_le g (inW (NB w g) (t.tdiv g)) R
  have hv := vs_const (g := g) (W := inW (NB w g) (t.tdiv g)) hR
  have hM : M63 = 9223372036854775807 := rfl
  have hb2 : v * ns g (inW (NB w g) (t.tdiv g)) R ≤ 1000000000 * 70000 := Int.mul_le_mul v1 (by omega) (by omega) (by omega)
  unfold mn
  rw [hv, show min M63 (v * ns g (inW (NB w g) (t.tdiv g)) R) = v * ns g (inW (NB w g) (t.tdiv g)) R by omega]
  unfold meanOf
  rw [if_neg (by omega)]
  exact Int.mul_tdiv_cancel v (by omega)
theorem pnw_of {g nw : Int} {x : Int × Int} (h : nw ≤ bk g x) : pnw g nw x = bk g x := by unfold pnw; split <;> omega
theorem pR_keeps {g n nw : Int} {x : Int × Int} {R : List (Int × Int)} (h : nw ≤ bk g x) (n1 : 1 ≤ n) : x ∈ pR g n nw x R := by
  unfold pR; rw [if_pos (by omega)]
  exact List.mem_filter.mpr ⟨by simp, by unfold Kp; rw [pnw_of h]; exact decide_eq_true (by omega)⟩
theorem td_mono {a b g : Int} (a0 : 0 ≤ a) (h : a ≤ b) (g1 : 1 ≤ g) : a.tdiv g ≤ b.tdiv g := by
  rw [Int.tdiv_eq_ediv_of_nonneg a0, Int.tdiv_eq_ediv_of_nonneg (by omega)]
  exact Int.ediv_le_ediv (by omega) h

/-- a load that stayed up to a tick: the windows and what holds -/
structure Stay (c : Cf) (v : Int) (t : Nat) (R0 R1 : Rg) (Rs Rq D : List (Int × Int)) : Prop where
  s : ∀ y ∈ Rs, y.2 = v
  q : ∀ y ∈ Rq, y.2 = v
  ls : Rs.length ≤ t
  lq : Rq.length ≤ t
  ld : D.length ≤ t
  n0 : R0.nw ≤ (t : Int).tdiv c.grain
  n1 : R1.nw ≤ (t : Int).tdiv c.grain

theorem steady_step {c : Cf} (hm : S.may c = true) {v : Int} (v0 : 0 ≤ v) (v1 : v ≤ 1000000000) {t : Nat} (ht : t ≤ 30000) {la si ms : Int} {mo : Bool} {R0 R1 : Rg} {H : Dl} {Rs Rq D : List (Int × Int)} (h : DRel c la c R0 R1 H Rs Rq D) (hs : Stay c v t R0 R1 Rs Rq D) (hla : la ≤ t) {r : Int} (r0 : 0 ≤ r) (r1 : r ≤ 100)
    {p : Int × Int} (hp : p = S.next c si ms ((t + 1 : Nat) : Int) (S.wover c (Wn c v) r))
    {D' : List (Int × Int)} (hD : D' = D.filter (keepT ((t + 1 : Nat) : Int)) ++ [(((t + 1 : Nat) : Int), Li c (Wn c v) r)])
    {k : Int × Int × Int} (hk : k = S.keep p.1 p.2 (mostFrom c.delay ((t + 1 : Nat) : Int) 0 D')) :
    ∃ R0' R1' R0'' R1'' H' Rs' Rq', S.dcput c si ms la c mo R0 R1 H ((t + 1 : Nat) : Int) v = some (0, c, si, ms, la, c, mo, R0', R1', H) ∧
      S.dcnext c si ms la c mo R0' R1' H ((t + 1 : Nat) : Int) r = some (((t + 1 : Nat) : Int), v, v, bnds c k.2.2, decide (0 ≤ k.1), S.excess c r v, 0, c, k.1, k.2.1, ((t + 1 : Nat) : Int), c, mo, R0'', R1'', H') ∧
      DRel c ((t + 1 : Nat) : Int) c R0'' R1'' H' Rs' Rq' D' ∧ Stay c v (t + 1) R0'' R1'' Rs' Rq' D' := by
  have hg := (rokS hm).1.1
  have hNs := NB_b (rokS hm).1.1 (rokS hm).1.2 (rokS hm).2
  have hNq := NB_b (rokP hm).1.1 (rokP hm).1.2 (rokP hm).2
  have hM : M63 = 9223372036854775807 := rfl
  have htk : Tk (((t + 1 : Nat) : Int), v) := mk_tk (by omega) (by omega) v0 (by omega)
  have a1 := hs.ls; have a2 := hs.lq; have a3 := hs.ld
  have hmo := td_mono (a := (t : Int)) (b := ((t + 1 : Nat) : Int)) (g := c.grain) (by omega) (by omega) hg
  have hbk : bk c.grain (((t + 1 : Nat) : Int), v) = ((t + 1 : Nat) : Int).tdiv c.grain := rfl
  have c0 : R0.nw ≤ bk c.grain (((t + 1 : Nat) : Int), v) := by have := hs.n0; omega
  have c1 : R1.nw ≤ bk c.grain (((t + 1 : Nat) : Int), v) := by have := hs.n1; omega
  obtain ⟨R0', R1', e, hD1, n0, n1, q0, q1⟩ := dcput_ok (mo := mo) (si := si) (ms := ms) hm h htk (by omega) (by omega)
  have l0 := pR_len c.grain (NB c.stable c.grain) R0.nw (((t + 1 : Nat) : Int), v) Rs
  have l1 := pR_len c.grain (NB c.panic c.grain) R1.nw (((t + 1 : Nat) : Int), v) Rq
  have w0 : ∀ y ∈ pR c.grain (NB c.stable c.grain) R0.nw (((t + 1 : Nat) : Int), v) Rs, y.2 = v := fun y hy => by
    rcases pR_mem hy with hh | hh
    · exact hs.s y hh
    · rw [hh]
  have w1 : ∀ y ∈ pR c.grain (NB c.panic c.grain) R1.nw (((t + 1 : Nat) : Int), v) Rq, y.2 = v := fun y hy => by
    rcases pR_mem hy with hh | hh
    · exact hs.q y hh
    · rw [hh]
  have k0 := pR_keeps (R := Rs) c0 hNs.1
  have k1 := pR_keeps (R := Rq) c1 hNq.1
  obtain ⟨Rs', hRs'⟩ : ∃ q, q = pR c.grain (NB c.stable c.grain) R0.nw (((t + 1 : Nat) : Int), v) Rs := ⟨_, rfl⟩
  obtain ⟨Rq', hRq'⟩ : ∃ q, q = pR c.grain (NB c.panic c.grain) R1.nw (((t + 1 : Nat) : Int), v) Rq := ⟨_, rfl⟩
  rw [← hRs'] at hD1 l0 w0 k0
  rw [← hRq'] at hD1 l1 w1 k1
  have es : v = mn c.stable c.grain ((t + 1 : Nat) : Int) Rs' := (mn_const w0 v0 v1 (by omega) k0 hbk hNs.1).symm
  have eq : v = mn c.panic c.grain ((t + 1 : Nat) : Int) Rq' := (mn_const w1 v0 v1 (by omega) k1 hbk hNq.1).symm
  have eL : letN c p.1 v v r = Li c (Wn c v) r := by
    unfold letN; split
    · split <;> rfl
    · rfl
  obtain ⟨R0'', R1'', H', e2, hD2, n2, n3, q2, q3⟩ := dcnext_ok (mo := mo) (si := si) (ms := ms) hm hD1 (t := ((t + 1 : Nat) : Int)) (r := r) (by omega) (by omega) r0 r1 (by omega) (by omega) (by omega) (fun y hy => by rw [w0 y hy]; omega) (fun y hy => by rw [w1 y hy]; omega) es eq hp (by rw [hD, eL]) hk
  refine ⟨R0', R1', R0'', R1'', H', Rs', Rq', e, e2, hD2, ⟨w0, w1, by omega, by omega, ?_, ?_, ?_⟩⟩
  · have := List.length_filter_le (keepT ((t + 1 : Nat) : Int)) D
    rw [hD, List.length_append, List.length_singleton]; omega
  · rw [n2, n0, pnw_of c0, hbk]; exact Int.le_refl _
  · rw [n3, n1, pnw_of c1, hbk]; exact Int.le_refl _
theorem stay0 (c : Cf) (v : Int) : Stay c v 0 (rg0 c.stable c.grain) (rg0 c.panic c.grain) [] [] [] :=
  ⟨fun _ h => (by cases h), fun _ h => (by cases h), by simp, by simp, by simp, by simp [rg0], by simp [rg0]⟩
end Go.Proofs.Ytdgipcjigbagfaa.AB
