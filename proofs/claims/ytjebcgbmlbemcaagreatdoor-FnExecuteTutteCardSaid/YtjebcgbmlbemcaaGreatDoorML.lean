import Derived.Test.YtjebcgbmlbemcaaGreatDoorM0
set_option linter.unusedVariables false
set_option linter.unusedSimpArgs false
namespace Go.Proofs.YtjebcgbmlbemcaaGreatDoor.M
open Go.RowKit Go.Proofs.YtjebcgbmlbemcaaGreatDoorW.PrintWords

/-! ### Lists of numbers -/
theorem rd_nat (l : List Int) (i : Nat) (h : i < l.length) : rd l (i : Int) = l[i] := by
  simp [rd, List.getD_eq_getElem?_getD, h]
theorem rd_get? (l : List Int) (i : Nat) (x : Int) (h : l[i]? = some x) : rd l (i : Int) = x := by
  simp [rd, List.getD_eq_getElem?_getD, h]
theorem toNat_nat (i : Nat) : ((i : Int) : Int).toNat = i := rfl
theorem list_ext_rd {l m : List Int} (h : l.length = m.length) (he : ∀ i : Nat, i < l.length → rd l (i : Int) = rd m (i : Int)) : l = m := by
  refine List.ext_getElem h (fun i h1 h2 => ?_)
  have := he i h1
  rwa [rd_nat l i h1, rd_nat m i h2] at this
def marks (a : Int) (n : Nat) : List Int := (List.range n).map (fun i : Nat => a + (i : Int))
theorem marks_length (a : Int) (n : Nat) : (marks a n).length = n := by simp [marks]
theorem rd_marks (a : Int) (n i : Nat) (h : i < n) : rd (marks a n) (i : Int) = a + (i : Int) := by
  rw [rd_nat _ _ (by rw [marks_length]; exact h)]; simp [marks]

end Go.Proofs.YtjebcgbmlbemcaaGreatDoor.M
