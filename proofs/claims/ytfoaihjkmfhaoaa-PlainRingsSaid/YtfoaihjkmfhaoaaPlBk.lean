/- Plain facts: buckets of records. -/
import Derived.Test.YtfoaihjkmfhaoaaPlW
namespace Go.Proofs.Ytfoaihjkmfhaoaa.AB
set_option linter.unusedVariables false
set_option linter.unusedSimpArgs false

def Takes (x : Int × Int) : Prop := (0 ≤ x.1 ∧ x.1 ≤ 1099511627776) ∧ 0 ≤ x.2
instance (x : Int × Int) : Decidable (Takes x) := inferInstanceAs (Decidable (_ ∧ _))
theorem getD_drop {q : List (Int × Int)} {k : Nat} {x : Int × Int} (hx : q[k]? = some x) (hk : k < q.length) : q.drop k = x :: q.drop (k + 1) := by
  rw [List.drop_eq_getElem_cons hk]
  congr 1
  have := hx; rw [List.getElem?_eq_getElem hk] at this; injection this

theorem tdv {a g : Int} (a0 : 0 ≤ a) (g1 : 1 ≤ g) : 0 ≤ a.tdiv g ∧ a.tdiv g ≤ a := ⟨Int.tdiv_nonneg a0 (by omega), Int.tdiv_le_self _ a0⟩
/-- the bucket of a record -/
def bk (g : Int) (x : Int × Int) : Int := x.1.tdiv g
theorem bk_b {g : Int} {x : Int × Int} (g1 : 1 ≤ g) (h : Takes x) : 0 ≤ bk g x ∧ bk g x ≤ 1099511627776 := by
  obtain ⟨⟨h0, h1⟩, _⟩ := h
  have := tdv (g := g) h0 g1
  unfold bk; omega
theorem bk_w {g : Int} {x : Int × Int} (g1 : 1 ≤ g) (h : Takes x) : IntKind.wrap .i64 (x.1.tdiv g) = bk g x := by
  have := bk_b g1 h
  exact wrap_id (n := bk g x) (by omega) (by omega)
def NB (w g : Int) : Int := (w + g - 1).tdiv g
theorem NB_b {w g : Int} (g1 : 1 ≤ g) (gw : g ≤ w) (w1 : w ≤ 600) : 1 ≤ NB w g ∧ NB w g ≤ 1200 := by
  have h := tdv (a := w + g - 1) (g := g) (by omega) g1
  have h2 : (g : Int).tdiv g ≤ (w + g - 1).tdiv g := Int.tdiv_le_tdiv (by omega) (by omega)
  have h3 : (g : Int).tdiv g = 1 := Int.tdiv_self (by omega)
  unfold NB; omega
/-- a window and a grain that there are -/
def Rok (w g : Int) : Prop := (1 ≤ g ∧ g ≤ w) ∧ w ≤ 600
def Kp (g n e : Int) (x : Int × Int) : Bool := decide (e - bk g x < n)

theorem cutL_all {α : Type} (q : List α) : cutL q 0 q.length = q := by unfold cutL; simp

end Go.Proofs.Ytfoaihjkmfhaoaa.AB
