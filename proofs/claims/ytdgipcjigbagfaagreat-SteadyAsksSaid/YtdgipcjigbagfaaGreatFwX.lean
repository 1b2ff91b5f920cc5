/- From a law's run to what its row asks. -/
import Derived.Test.YtdgipcjigbagfaaGreatFwW
import Derived.Below
namespace Go.Proofs.YtdgipcjigbagfaaGreat.AB
variable {P : Program}
open Go.RowKit

theorem hnd_run {f : Nat} {h : Hnd} (hh : HndOk P f h) {args : List AVal} {σ : List Blk} {v : AVal} {σ' : List Blk}
    (he : ∀ (R : Type) (k : AVal → List Blk → Option R), h R args σ k = k v σ') (hs : σ' = σ := by rfl) : Callable P f ∧ ACalls P f args σ v σ' := by
  subst hs
  obtain ⟨v2, σ2, σk, hk, hor, hc, ha⟩ := hh (AVal × List Blk) args _ (fun v σ => some (v, σ)) (v, _) (he _ _)
  simp only [Option.some.injEq, Prod.mk.injEq] at hk
  obtain ⟨rfl, h1⟩ := hk
  rcases hor with h2 | ⟨_, h2⟩
  · rw [← h1, h2]; rw [← h2, h1] at ha; rw [← h2, h1]; exact ⟨hc, ha⟩
  · rw [h2] at ha; exact ⟨hc, ha⟩

/-- a law that answers true, of arguments that are only read -/
theorem law_calls {f : Nat} {args : List AVal} {σ σ' : List Blk} {cargs : List Value} (ha : ACalls P f args σ (.bool true) σ') (hro : ∀ b, (getB σ b).wr = false) {φ : Map} {ψ : Nat → List Nat} {w : World}
    (hrel : ∀ b, BRel φ w (getB σ b) (φ b) (ψ b)) (hd : ∀ b, φ b ≠ none → b < σ.length) (hv : VRels φ args cargs) :
    Calls P f cargs.toArray w fun e w' => e = .returned (.bool true) ∧ Below w.heap.size w w' := by
  refine (ha.2.2 φ ψ w cargs ⟨hrel, fun b b' _ _ _ hw => ?_⟩ hd hv).mono fun e w' h => ?_
  · rw [hro b, hro b'] at hw; rcases hw with h | h <;> cases h
  · obtain ⟨φ', ψ', cv, he, hcv, hg, _⟩ := h
    simp only [VRel] at hcv
    subst hcv
    refine ⟨he, hg.out.os, hg.out.tape, hg.out.output, hg.grow, fun k hk => hg.frame k hk ?_⟩
    rintro ⟨b, _, hw, _⟩
    rw [hro b] at hw; cases hw

/-- a law whose arguments lie in no memory -/
theorem law_scalar {f : Nat} {args : List AVal} {σ' : List Blk} {cargs : List Value} (ha : ACalls P f args [] (.bool true) σ') {w : World} (hv : VRels (fun _ => none) args cargs) :
    Calls P f cargs.toArray w fun e w' => e = .returned (.bool true) ∧ Below w.heap.size w w' :=
  law_calls ha (fun _ => rfl) (ψ := fun _ => []) (fun _ hl => by cases hl) (fun b hb => absurd rfl hb) hv
end Go.Proofs.YtdgipcjigbagfaaGreat.AB
