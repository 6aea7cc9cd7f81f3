import Derived.Test.YtikkokflcgcnbaaGreatDoorMQ
set_option linter.unusedVariables false
set_option linter.unusedSimpArgs false
namespace Go.Proofs.YtikkokflcgcnbaaGreatDoor.M
open Go.RowKit Go.Proofs.YtikkokflcgcnbaaGreatDoorW.PrintWords

/-! ### Normal words -/
def numW (s : ByteArray) (V : Nat) : Nat := 1 + s.size / 2 - V
noncomputable def nnW (s : ByteArray) : Nat := numW s (corners s)
def handS (n : Nat) : ByteArray := if n = 0 then (⟨#[97, 65]⟩ : ByteArray) else (⟨#[97, 98, 65, 66, 99, 100, 67, 68]⟩ : ByteArray).extract 0 (2 * n)
def capS (n : Nat) : ByteArray := (⟨#[97, 97, 98, 98, 99, 99, 100, 100, 101, 101]⟩ : ByteArray).extract 0 (2 * n)
noncomputable def normS (s : ByteArray) : ByteArray := if WSD s then handS (nnW s) else capS (nnW s)
theorem nnW_eq {s : ByteArray} (hw : WOK s) : 2 - ((corners s : Int) - (s.size / 2 : Nat) + 1) = (nnW s : Int) := by
  have := euler_le hw
  unfold nnW numW; omega
theorem nnW_sided {s : ByteArray} (hw : WSD s) : nnW s = 0 ∨ nnW s = 2 ∨ nnW s = 4 := by
  have h1 := euler_le hw.1
  have h2 := euler_even hw
  have h3 := corners_pos hw.1
  have h4 := hw.1.size
  unfold nnW numW; omega
theorem nnW_unsided {s : ByteArray} (hw : WOK s) (hu : ¬ WSD s) : 1 ≤ nnW s ∧ nnW s ≤ 5 := by
  have h1 := euler_unsided hw hu
  have h3 := corners_pos hw
  have h4 := hw.size
  have h5 := hw.even
  unfold nnW numW; omega
def capL : Nat → List Int
  | 0 => []
  | n + 1 => capL n ++ [97 + (n : Int)] ++ [97 + (n : Int)]
theorem capL_length : ∀ n, (capL n).length = 2 * n
  | 0 => rfl
  | n + 1 => by simp only [capL, List.length_append, capL_length n, List.length_singleton]; omega
theorem capS_eq (n : Nat) (h : n ≤ 5) : strOfNums (capL n) = capS n := by
  have : n = 0 ∨ n = 1 ∨ n = 2 ∨ n = 3 ∨ n = 4 ∨ n = 5 := by omega
  rcases this with rfl | rfl | rfl | rfl | rfl | rfl <;> decide +kernel
/-! ### Classes -/
noncomputable def clsS (s : ByteArray) : ByteArray := if WSD s then (⟨#[83]⟩ : ByteArray) ++ strOfNums [48 + ((nnW s / 2 : Nat) : Int)] else (⟨#[80]⟩ : ByteArray) ++ strOfNums [48 + (nnW s : Int)]
theorem nnW_lt {s : ByteArray} (hw : WOK s) : nnW s ≤ 5 := by
  by_cases h : WSD s
  · rcases nnW_sided h with e | e | e <;> omega
  · exact (nnW_unsided hw h).2
theorem clsS_ne (s : ByteArray) : clsS s ≠ (⟨#[]⟩ : ByteArray) := by
  intro h
  have := congrArg ByteArray.size h
  unfold clsS at this
  split at this
  · rw [ByteArray.size_append] at this
    have e : (⟨#[83]⟩ : ByteArray).size = 1 := rfl
    have e0 : (⟨#[]⟩ : ByteArray).size = 0 := rfl
    omega
  · rw [ByteArray.size_append] at this
    have e : (⟨#[80]⟩ : ByteArray).size = 1 := rfl
    have e0 : (⟨#[]⟩ : ByteArray).size = 0 := rfl
    omega
noncomputable def sameS (a b : ByteArray) : Bool := decide (WOK a ∧ WOK b ∧ clsS a = clsS b)
theorem toList_loop (b : ByteArray) : ∀ (n i : Nat) (r : List UInt8), b.size - i = n → ByteArray.toList.loop b i r = r.reverse ++ b.data.toList.drop i := by
  intro n
  induction n with
  | zero => intro i r h; unfold ByteArray.toList.loop; rw [if_neg (by omega)]
            rw [List.drop_eq_nil_of_le (by have : b.size = b.data.toList.length := by simp
                                           omega)]; simp
  | succ n ih => 
    intro i r h
    unfold ByteArray.toList.loop
    rw [if_pos (by omega), ih _ _ (by omega)]
    have hl : i < b.data.toList.length := by
      have : b.size = b.data.toList.length := by simp
      omega
    rw [List.drop_eq_getElem_cons hl]
    have : b.get! i = b.data.toList[i] := by
      have e : b.get! i = b.data[i]! := rfl
      have hl' : i < b.data.size := by simpa using hl
      rw [e, getElem!_pos b.data i hl']
      simp
    simp [this]
theorem toList_data (b : ByteArray) : b.toList = b.data.toList := by
  unfold ByteArray.toList
  rw [toList_loop b _ 0 [] rfl]; simp
theorem toList_beq (a b : ByteArray) : (a.toList == b.toList) = decide (a = b) := by
  by_cases h : a = b
  · subst h; simp
  · have : a.toList ≠ b.toList := fun e => h (by
      rw [toList_data, toList_data] at e
      cases a; cases b; congr; exact Array.toList_inj.1 e)
    simp [h, this]

end Go.Proofs.YtikkokflcgcnbaaGreatDoor.M
