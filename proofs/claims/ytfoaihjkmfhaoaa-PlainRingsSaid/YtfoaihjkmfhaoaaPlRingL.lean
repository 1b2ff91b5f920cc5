/- Rings: numbers that the laws draw; grain 1. -/
import Derived.Test.YtfoaihjkmfhaoaaPlRing4
import Derived.Test.YtfoaihjkmfhaoaaSringz
namespace Go.Proofs.Ytfoaihjkmfhaoaa.AB
set_option linter.unusedVariables false
set_option linter.unusedSimpArgs false

theorem um (x : Int) {m : Int} (h : 0 < m) (h2 : m ≤ 4611686018427387904) : ∃ k, IntKind.wrap .i64 (Int.tmod (IntKind.wrap .u64 x) m) = k ∧ 0 ≤ k ∧ k < m := by
  obtain ⟨h0, h1⟩ := umod_range x m h
  exact ⟨_, wrap_id (by omega) (by omega), h0, h1⟩
theorem wrap_u {n : Int} (h0 : 0 ≤ n) (h1 : n < 18446744073709551616) : IntKind.wrap .u64 n = n := by rw [IntKind.wrap_u64]; omega
theorem bk_one (x : Int × Int) : bk 1 x = x.1 := by unfold bk; simp
theorem NB_one (w : Int) : NB w 1 = w := by unfold NB; simp
theorem rok1 {w : Int} (h0 : 1 ≤ w) (h1 : w ≤ 600) : Rok w 1 := ⟨⟨by omega, h0⟩, h1⟩
theorem over_small {s : Int} (h : s ≤ M63) : over s = false := by unfold over; simp; omega
theorem min_small {s : Int} (h : s ≤ M63) : min M63 s = s := by omega
theorem tdiv_one' (t : Int) : t.tdiv 1 = t := by simp
theorem mk_tk {t v : Int} (t0 : 0 ≤ t) (t1 : t ≤ 1099511627776) (v0 : 0 ≤ v) (v1 : v ≤ M63) : Tk (t, v) := ⟨⟨⟨t0, t1⟩, v0⟩, v1⟩
theorem pR_snoc {g n nw : Int} {x : Int × Int} {R : List (Int × Int)} (h : nw - bk g x < n) (hk : ∀ y ∈ R ++ [x], pnw g nw x - bk g y < n) : pR g n nw x R = R ++ [x] := by
  unfold pR
  rw [if_pos h]
  refine List.filter_eq_self.mpr fun y hy => ?_
  unfold Kp; simpa using hk y hy
theorem pR_only {g n nw : Int} {x : Int × Int} {R : List (Int × Int)} (h : nw - bk g x < n) (hk : ∀ y ∈ R, ¬ pnw g nw x - bk g y < n) (hx : pnw g nw x - bk g x < n) : pR g n nw x R = [x] := by
  unfold pR
  rw [if_pos h, List.filter_append]
  have : R.filter (Kp g n (pnw g nw x)) = [] := List.filter_eq_nil_iff.mpr fun y hy => by unfold Kp; simpa using hk y hy
  rw [this]
  have : Kp g n (pnw g nw x) x = true := by unfold Kp; simpa using hx
  simp [this]
theorem pR_late {g n nw : Int} {x : Int × Int} {R : List (Int × Int)} (h : ¬ nw - bk g x < n) : pR g n nw x R = R := by unfold pR; rw [if_neg h]
theorem in1 {wt : Int × Int → Int} {g : Int} {W : Int → Bool} {x : Int × Int} {R : List (Int × Int)} (h : W (bk g x) = true) : wsum wt g W (x :: R) = wt x + wsum wt g W R := by simp only [wsum]; rw [if_pos h]
theorem out1 {wt : Int × Int → Int} {g : Int} {W : Int → Bool} {x : Int × Int} {R : List (Int × Int)} (h : W (bk g x) = false) : wsum wt g W (x :: R) = wsum wt g W R := by
  simp only [wsum]; rw [if_neg (by rw [h]; simp)]; omega
theorem inW_t {n t a : Int} (h1 : a ≤ t) (h2 : t - a < n) : inW n t a = true := by unfold inW; simp [h1, h2]
theorem inW_f {n t a : Int} (h : a ≤ t → ¬ t - a < n) : inW n t a = false := by unfold inW; simp; omega
theorem pnw_old {g nw : Int} {x : Int × Int} (h : bk g x ≤ nw) : pnw g nw x = nw := by unfold pnw; rw [if_neg (by omega)]
theorem pnw_new {g nw : Int} {x : Int × Int} (h : nw ≤ bk g x) : pnw g nw x = bk g x := by unfold pnw; split <;> omega
end Go.Proofs.Ytfoaihjkmfhaoaa.AB
