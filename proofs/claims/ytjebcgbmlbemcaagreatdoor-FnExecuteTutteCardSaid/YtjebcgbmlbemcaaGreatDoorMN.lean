import Derived.Test.YtjebcgbmlbemcaaGreatDoorML
set_option linter.unusedVariables false
set_option linter.unusedSimpArgs false
namespace Go.Proofs.YtjebcgbmlbemcaaGreatDoor.M
open Go.RowKit Go.Proofs.YtjebcgbmlbemcaaGreatDoorW.PrintWords

/-! ### Strings of numbers -/
theorem strOfNums_append (a b : List Int) : strOfNums (a ++ b) = strOfNums a ++ strOfNums b := by
  apply ByteArray.ext
  simp [strOfNums, ByteArray.data_append]
theorem strOfNums_nil : strOfNums [] = (⟨#[]⟩ : ByteArray) := rfl
theorem bt_strOfNums (l : List Int) (i : Nat) (h : i < l.length) (h0 : 0 ≤ l[i]) (h1 : l[i] ≤ 255) : bt (strOfNums l) (i : Int) = l[i] := by
  have hs : i < (strOfNums l).size := by rw [strOfNums_size]; exact h
  have e : (strOfNums l)[i]'hs = UInt8.ofNat (l[i]).toNat := by
    show (strOfNums l).data[i]'hs = _
    simp [strOfNums]
  unfold bt
  rw [dif_pos (show ((i : Int)).toNat < (strOfNums l).size from hs)]
  show (((strOfNums l)[i]'hs).toNat : Int) = _
  rw [e, UInt8.toNat_ofNat']
  omega
theorem xor32_all : ∀ m : Fin 26, Go.bits .xor .u8 (97 + (m.val : Int)) 32 = 65 + (m.val : Int) := by decide +kernel
theorem xor32 (m : Int) (h0 : 0 ≤ m) (h1 : m < 26) : Go.bits .xor .u8 (97 + m) 32 = 65 + m := by
  have := xor32_all ⟨m.toNat, by omega⟩
  simpa [Int.toNat_of_nonneg h0] using this
/-! ### Names -/
def nf (s : ByteArray) : Nat → Nat
  | 0 => 0
  | i + 1 => nf s i + (if i < par s i then 1 else 0)
theorem nf_le (s : ByteArray) : ∀ i, nf s i ≤ i
  | 0 => Nat.le_refl _
  | i + 1 => by have := nf_le s i; simp only [nf]; split <;> omega
def fst_ (s : ByteArray) (i : Nat) : Nat := if i < par s i then i else par s i
def nmb (s : ByteArray) (q : Int) (i : Nat) : Int := if wsm s i = wsm s (fst_ s i) then 97 + (q + nf s (fst_ s i)) else 65 + (q + nf s (fst_ s i))
def namesL (s : ByteArray) (q : Int) : List Int := (List.range s.size).map (fun i => nmb s q i)
theorem namesL_length (s : ByteArray) (q : Int) : (namesL s q).length = s.size := by simp [namesL]
theorem namesL_get (s : ByteArray) (q : Int) (i : Nat) (h : i < s.size) : (namesL s q)[i]'(by rw [namesL_length]; exact h) = nmb s q i := by simp [namesL]

end Go.Proofs.YtjebcgbmlbemcaaGreatDoor.M
