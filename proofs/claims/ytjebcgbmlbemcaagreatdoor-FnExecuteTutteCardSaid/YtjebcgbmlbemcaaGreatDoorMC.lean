import Derived.Test.YtjebcgbmlbemcaaGreatDoorMN
set_option linter.unusedVariables false
set_option linter.unusedSimpArgs false
namespace Go.Proofs.YtjebcgbmlbemcaaGreatDoor.M
open Go.RowKit Go.Proofs.YtjebcgbmlbemcaaGreatDoorW.PrintWords

/-! ### Cuts -/
def fl (x : Int) : Int := if x ≥ 97 then x - 32 else x + 32
theorem fl_all : ∀ n : Fin 256, 0 ≤ slet (n.val : Int) → Go.bits .xor .u8 (n.val : Int) 32 = fl (n.val : Int) := by decide +kernel
theorem fl_eq (x : Int) (h0 : 0 ≤ x) (h1 : x ≤ 255) (hx : 0 ≤ slet x) : Go.bits .xor .u8 x 32 = fl x := by
  have := fl_all ⟨x.toNat, by omega⟩
  simp only [Int.toNat_of_nonneg h0] at this
  exact this hx
theorem small_all : ∀ n : Fin 256, 0 ≤ slet (n.val : Int) → Go.bits .or .u8 (n.val : Int) 32 = 97 + slet (n.val : Int) ∧ Go.bits .andNot .u8 (n.val : Int) 32 = 65 + slet (n.val : Int) := by decide +kernel
theorem small_eq (x : Int) (h0 : 0 ≤ x) (h1 : x ≤ 255) (hx : 0 ≤ slet x) : Go.bits .or .u8 x 32 = 97 + slet x ∧ Go.bits .andNot .u8 x 32 = 65 + slet x := by
  have := small_all ⟨x.toNat, by omega⟩
  simp only [Int.toNat_of_nonneg h0] at this
  exact this hx
theorem slet_small {c : Int} (h0 : 0 ≤ c) (h1 : c < 5) : slet (97 + c) = c ∧ slet (65 + c) = c := by
  unfold slet
  constructor
  · rw [if_pos ⟨by omega, by omega⟩]; omega
  · rw [if_neg (by omega), if_pos ⟨by omega, by omega⟩]; omega
def AllLet (t : ByteArray) : Prop := ∀ j, j < t.size → 0 ≤ slet (bt t (j : Int))
theorem bt_nat (s : ByteArray) (i : Nat) (h : i < s.size) : bt s (i : Int) = ((s[i]'h).toNat : Int) := by
  unfold bt; rw [dif_pos (show ((i : Int)).toNat < s.size from h)]; rfl
theorem bt_append_left (x y : ByteArray) (i : Nat) (h : i < x.size) : bt (x ++ y) (i : Int) = bt x (i : Int) := by
  rw [bt_nat _ i (by rw [ByteArray.size_append]; omega), bt_nat x i h, ByteArray.getElem_append_left h]
theorem bt_append_right (x y : ByteArray) (i : Nat) (h : i < y.size) : bt (x ++ y) ((x.size + i : Nat) : Int) = bt y (i : Int) := by
  rw [bt_nat _ (x.size + i) (by rw [ByteArray.size_append]; omega), bt_nat y i h, ByteArray.getElem_append_right (by omega)]
  simp
theorem bt_extract (s : ByteArray) (a b i : Nat) (h : a + i < b) (hb : b ≤ s.size) : bt (s.extract a b) (i : Int) = bt s ((a + i : Nat) : Int) := by
  rw [bt_nat _ i (by rw [ByteArray.size_extract]; omega), bt_nat s (a + i) (by omega), ByteArray.getElem_extract]
theorem AllLet.append {x y : ByteArray} (hx : AllLet x) (hy : AllLet y) : AllLet (x ++ y) := by
  intro j hj
  rw [ByteArray.size_append] at hj
  by_cases h : j < x.size
  · rw [bt_append_left x y j h]; exact hx j h
  · obtain ⟨i, rfl⟩ : ∃ i, j = x.size + i := ⟨j - x.size, by omega⟩
    rw [bt_append_right x y i (by omega)]; exact hy i (by omega)
theorem AllLet.extract {s : ByteArray} (h : AllLet s) (a b : Nat) (hb : b ≤ s.size) : AllLet (s.extract a b) := by
  intro j hj
  rw [ByteArray.size_extract] at hj
  rw [bt_extract s a b j (by omega) hb]; exact h _ (by omega)
theorem AllLet.one {v : Int} (h0 : 0 ≤ v) (h1 : v ≤ 255) (hv : 0 ≤ slet v) : AllLet (strOfNums [v]) := by
  intro j hj
  have : j = 0 := by rw [strOfNums_size] at hj; simpa using hj
  subst this
  rw [bt_strOfNums [v] 0 (by simp) h0 h1]; exact hv
theorem WOK.all {s : ByteArray} (h : WOK s) : AllLet s := fun j hj => (h.2 j hj).1
def backN (t : ByteArray) (m : Nat) : List Int := (List.range m).map (fun j => fl (bt t ((t.size - 1 - j : Nat) : Int)))
def backS (t : ByteArray) : ByteArray := strOfNums (backN t t.size)
theorem backN_succ (t : ByteArray) (m : Nat) : backN t (m + 1) = backN t m ++ [fl (bt t ((t.size - 1 - m : Nat) : Int))] := by
  simp [backN, List.range_succ]
def cutS (s : ByteArray) (i k : Nat) : ByteArray :=
  ((s.extract (k + 1) i ++ strOfNums [97 + wl s k]) ++ s.extract 0 k) ++
    (if wsm s k = wsm s (par s k) then backS ((s.extract (par s k + 1) s.size ++ strOfNums [65 + wl s k]) ++ s.extract i (par s k)) else (s.extract (par s k + 1) s.size ++ strOfNums [65 + wl s k]) ++ s.extract i (par s k))
def CutOK (s : ByteArray) (i k : Int) : Prop := WOK s ∧ 1 ≤ i ∧ i < s.size ∧ 0 ≤ k ∧ k < i ∧ i ≤ (par s k.toNat : Int)
instance (s : ByteArray) (i k : Int) : Decidable (CutOK s i k) := by unfold CutOK; infer_instance
def cutV (s : ByteArray) (i k : Int) : ByteArray × Bool := if CutOK s i k then (cutS s i.toNat k.toNat, true) else ((⟨#[]⟩ : ByteArray), false)
theorem rest_all {s : ByteArray} (hw : WOK s) (i k : Nat) (hk : k < s.size) : AllLet ((s.extract (par s k + 1) s.size ++ strOfNums [65 + wl s k]) ++ s.extract i (par s k)) := by
  have h0 := (hw.2 k hk).1
  have hr := slet_range (bt s (k : Int))
  have hw5 : wl s k < 5 := hr.2
  have := par_spec hw hk
  refine AllLet.append (AllLet.append (hw.all.extract _ _ (Nat.le_refl _)) (AllLet.one (by omega) (by omega) ?_)) (hw.all.extract _ _ (by omega))
  rw [(slet_small h0 hw5).2]; exact h0

end Go.Proofs.YtjebcgbmlbemcaaGreatDoor.M
