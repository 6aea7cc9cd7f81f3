import Derived.Test.YtjebcgbmlbemcaaGreatDoorM0
set_option linter.unusedVariables false
set_option linter.unusedSimpArgs false
namespace Go.Proofs.YtjebcgbmlbemcaaGreatDoor.M
open Go.RowKit Go.Proofs.YtjebcgbmlbemcaaGreatDoorW.PrintWords

theorem toList_loop (b : ByteArray) : ∀ (n i : Nat) (r : List UInt8), b.size - i = n → ByteArray.toList.loop b i r = r.reverse ++ b.data.toList.drop i := by
  intro n
  induction n with
  | zero => intro i r h; unfold ByteArray.toList.loop; rw [if_neg (by omega)]
            rw [List.drop_eq_nil_of_le (by have : b.size = b.data.toList.length := by simp
                                           omega)]; simp
  | succ n ih => 
    intro i r h
    unfold ByteArray.toList.loop
    rw [if_pos (by omega), ih _ _ (by omega)]
    have hl : i < b.data.toList.length := by
      have : b.size = b.data.toList.length := by simp
      omega
    rw [List.drop_eq_getElem_cons hl]
    have : b.get! i = b.data.toList[i] := by
      have e : b.get! i = b.data[i]! := rfl
      have hl' : i < b.data.size := by simpa using hl
      rw [e, getElem!_pos b.data i hl']
      simp
    simp [this]
theorem toList_data (b : ByteArray) : b.toList = b.data.toList := by
  unfold ByteArray.toList
  rw [toList_loop b _ 0 [] rfl]; simp
theorem toList_beq (a b : ByteArray) : (a.toList == b.toList) = decide (a = b) := by
  by_cases h : a = b
  · subst h; simp
  · have : a.toList ≠ b.toList := fun e => h (by
      rw [toList_data, toList_data] at e
      cases a; cases b; congr; exact Array.toList_inj.1 e)
    simp [h, this]

end Go.Proofs.YtjebcgbmlbemcaaGreatDoor.M
