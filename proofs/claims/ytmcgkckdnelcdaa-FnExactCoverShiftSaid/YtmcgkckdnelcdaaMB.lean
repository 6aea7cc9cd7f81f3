import Derived.Test.YtmcgkckdnelcdaaMU
set_option linter.unusedVariables false
set_option linter.unusedSimpArgs false
namespace Go.Proofs.Ytmcgkckdnelcdaa.M
open Go.RowKit Go.Proofs.YtmcgkckdnelcdaaW.PrintWords

/-! ### Lists of lists -/
def rdL (xs : List (List Int)) (i : Int) : List Int := xs.getD i.toNat []
theorem rdL_nat (xs : List (List Int)) (i : Nat) (h : i < xs.length) : rdL xs (i : Int) = xs[i] := by
  simp [rdL, List.getD_eq_getElem?_getD, h]
theorem rdL_set_self (xs : List (List Int)) (i : Nat) (v : List Int) (h : i < xs.length) : rdL (xs.set i v) (i : Int) = v := by
  simp [rdL, List.getD_eq_getElem?_getD, List.getElem?_set_self h]
theorem rdL_set_ne (xs : List (List Int)) (i j : Nat) (v : List Int) (h : i ≠ j) : rdL (xs.set i v) (j : Int) = rdL xs (j : Int) := by
  simp only [rdL, List.getD_eq_getElem?_getD, Int.toNat_natCast]
  rw [List.getElem?_set_ne h]
theorem listL_ext {l m : List (List Int)} (h : l.length = m.length) (he : ∀ i : Nat, i < l.length → rdL l (i : Int) = rdL m (i : Int)) : l = m := by
  refine List.ext_getElem h (fun i h1 h2 => ?_)
  have := he i h1
  rwa [rdL_nat l i h1, rdL_nat m i h2] at this
/-- Lists that are not too long, nor too many. -/
def Small (l : List (List Int)) : Prop := l.length ≤ 1048576 ∧ ∀ i : Nat, i < l.length → (rdL l (i : Int)).length ≤ 1048576
/-- A voltage: one permutation of the sheets for each edge. -/
def VOK (t f : List Int) (k : Int) (v : List (List Int)) : Prop := MOK t f ∧ (1 ≤ k ∧ k ≤ 6) ∧ (t.length : Int) * k ≤ 12 ∧ v.length = f.length / 2 ∧ ∀ e : Nat, e < v.length → POK (rdL v (e : Int)) ∧ ((rdL v (e : Int)).length : Int) = k
theorem MOK.size {t f : List Int} (h : MOK t f) : 1 ≤ t.length ∧ t.length ≤ 12 ∧ f.length = t.length := ⟨h.1.1.1, h.1.1.2, h.2.2.1.symm⟩
theorem MOK.permT {t f : List Int} (h : MOK t f) : PermL t.length t := h.1.2
theorem MOK.permF {t f : List Int} (h : MOK t f) : PermL t.length f := by have := h.2.1.2; rw [← h.2.2.1] at this; exact this

end Go.Proofs.Ytmcgkckdnelcdaa.M
