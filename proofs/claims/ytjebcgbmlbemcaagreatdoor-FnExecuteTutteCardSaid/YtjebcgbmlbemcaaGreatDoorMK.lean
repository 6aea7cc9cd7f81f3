import Derived.Test.YtjebcgbmlbemcaaGreatDoorMO
import Derived.Test.YtjebcgbmlbemcaaGreatDoorMN
set_option linter.unusedVariables false
set_option linter.unusedSimpArgs false
namespace Go.Proofs.YtjebcgbmlbemcaaGreatDoor.M
open Go.RowKit Go.Proofs.YtjebcgbmlbemcaaGreatDoorW.PrintWords

/-! ### Corners -/
def folF (n j : Nat) : Nat := if j % 2 = 1 then (j + 1) % (2 * n) else (j + 2 * n - 1) % (2 * n)
def gluF (s : ByteArray) (j : Nat) : Nat := if wsm s (j / 2) = wsm s (par s (j / 2)) then 2 * par s (j / 2) + j % 2 else 2 * par s (j / 2) + 1 - j % 2
def folL (s : ByteArray) : List Int := (List.range (2 * s.size)).map (fun j => (folF s.size j : Int))
def gluL (s : ByteArray) : List Int := (List.range (2 * s.size)).map (fun j => (gluF s j : Int))
theorem folL_length (s : ByteArray) : (folL s).length = 2 * s.size := by simp [folL]
theorem gluL_length (s : ByteArray) : (gluL s).length = 2 * s.size := by simp [gluL]
theorem rd_folL (s : ByteArray) (j : Nat) (h : j < 2 * s.size) : rd (folL s) (j : Int) = folF s.size j := by
  rw [rd_nat _ _ (by rw [folL_length]; exact h)]; simp [folL]
theorem rd_gluL (s : ByteArray) (j : Nat) (h : j < 2 * s.size) : rd (gluL s) (j : Int) = gluF s j := by
  rw [rd_nat _ _ (by rw [gluL_length]; exact h)]; simp [gluL]
theorem folF_lt (n j : Nat) (h : j < 2 * n) : folF n j < 2 * n := by
  unfold folF; split <;> exact Nat.mod_lt _ (by omega)
theorem gluF_lt {s : ByteArray} (hw : WOK s) (j : Nat) (h : j < 2 * s.size) : gluF s j < 2 * s.size := by
  have := (par_spec hw (i := j / 2) (by omega)).1
  unfold gluF; split <;> omega
theorem folL_pts (s : ByteArray) : Pts (2 * s.size) (folL s) := ⟨folL_length s, fun i hi => by
  rw [rd_folL s i hi]; have := folF_lt s.size i hi; omega⟩
theorem gluL_pts {s : ByteArray} (hw : WOK s) : Pts (2 * s.size) (gluL s) := ⟨gluL_length s, fun i hi => by
  rw [rd_gluL s i hi]; have := gluF_lt hw i hi; omega⟩
/-- How many points of a list stand at themselves. -/
def fixN (o : List Int) (n : Nat) : Nat := cntP (fun j => decide ((j : Int) = rd o (j : Int))) n
noncomputable def corners (s : ByteArray) : Nat := fixN (orbL (folL s) (gluL s)) (2 * s.size)
/-- A list in the making: what stands at some places is known. -/
theorem known_set {F : Nat → Nat} {l : List Int} {p q : Nat} (hp : p < l.length) (h : q = p ∨ rd l (q : Int) = F q) : rd (l.set p (F p : Int)) (q : Int) = F q := by
  by_cases e : p = q
  · subst e; exact rd_set_self _ _ _ hp
  · rw [rd_set_ne _ _ _ _ e]
    rcases h with h | h
    · exact absurd h.symm e
    · exact h
theorem fol_at (n q : Nat) (hq : q < n) : folF n (2 * q + 1) = (2 * q + 2) % (2 * n) ∧ folF n ((2 * q + 2) % (2 * n)) = 2 * q + 1 := by
  constructor
  · unfold folF; rw [if_pos (by omega)]
  · by_cases e : q + 1 = n
    · have : (2 * q + 2) % (2 * n) = 0 := by rw [show 2 * q + 2 = 2 * n by omega, Nat.mod_self]
      rw [this]; unfold folF; rw [if_neg (by omega), Nat.mod_eq_of_lt (by omega)]; omega
    · rw [Nat.mod_eq_of_lt (show 2 * q + 2 < 2 * n by omega)]
      unfold folF; rw [if_neg (by omega), show 2 * q + 2 + 2 * n - 1 = (2 * q + 1) + 2 * n by omega, Nat.add_mod_right, Nat.mod_eq_of_lt (by omega)]
theorem glu_at (s : ByteArray) (q : Nat) : gluF s (2 * q) = (if wsm s q = wsm s (par s q) then 2 * par s q else 2 * par s q + 1) ∧ gluF s (2 * q + 1) = (if wsm s q = wsm s (par s q) then 2 * par s q + 1 else 2 * par s q) := by
  have e1 : 2 * q / 2 = q := by omega
  have e2 : (2 * q + 1) / 2 = q := by omega
  have e3 : 2 * q % 2 = 0 := by omega
  have e4 : (2 * q + 1) % 2 = 1 := by omega
  unfold gluF
  rw [e1, e2, e3, e4]
  exact ⟨rfl, rfl⟩
theorem known_all {F : Nat → Nat} {n : Nat} {l m : List Int} (hl : l.length = 2 * n) (hm : m.length = 2 * n) (hF : ∀ j, j < 2 * n → rd m (j : Int) = F j)
    (h : ∀ q, q < n → rd l ((2 * q + 1 : Nat) : Int) = F (2 * q + 1) ∧ rd l (((2 * q + 2) % (2 * n) : Nat) : Int) = F ((2 * q + 2) % (2 * n))) : l = m := by
  refine list_ext_rd (by omega) (fun j hj => ?_)
  rw [hF j (by omega)]
  by_cases e : j % 2 = 1
  · have := (h (j / 2) (by omega)).1
    rwa [show 2 * (j / 2) + 1 = j by omega] at this
  · by_cases z : j = 0
    · have := (h (n - 1) (by omega)).2
      rw [show 2 * (n - 1) + 2 = 2 * n by omega, Nat.mod_self] at this
      rw [z]; exact this
    · have := (h (j / 2 - 1) (by omega)).2
      rw [show 2 * (j / 2 - 1) + 2 = j by omega, Nat.mod_eq_of_lt (by omega)] at this
      exact this
theorem known_two {F : Nat → Nat} {n : Nat} {l m : List Int} (hl : l.length = 2 * n) (hm : m.length = 2 * n) (hF : ∀ j, j < 2 * n → rd m (j : Int) = F j)
    (h : ∀ q, q < n → rd l ((2 * q : Nat) : Int) = F (2 * q) ∧ rd l ((2 * q + 1 : Nat) : Int) = F (2 * q + 1)) : l = m := by
  refine list_ext_rd (by omega) (fun j hj => ?_)
  rw [hF j (by omega)]
  have := h (j / 2) (by omega)
  by_cases e : j % 2 = 1
  · rw [show 2 * (j / 2) + 1 = j by omega] at this; exact this.2
  · rw [show 2 * (j / 2) = j by omega] at this; exact this.1
theorem corner_nums (n i : Nat) (hi : i < n) (hn : n ≤ 10) : ∃ m, m < 2 * n ∧ Aside0 ((2 * i + 2) % (2 * n) = m) ∧ folF n (2 * i + 1) = m ∧ folF n m = 2 * i + 1 ∧
    Aside0 (Int.tmod (wrap64 (((2 * i : Nat) : Int) + 2)) ((2 * n : Nat) : Int) = (m : Int)) ∧ Aside0 (wrap64 (2 * Int.tmod ((i + 1 : Nat) : Int) (n : Int)) = (m : Int)) := by
  obtain ⟨f0, f1⟩ := fol_at n i hi
  refine ⟨(2 * i + 2) % (2 * n), Nat.mod_lt _ (by omega), ⟨rfl⟩, f0, f1, ⟨?_⟩, ⟨?_⟩⟩
  · rw [wrap64_id (by omega) (by omega), show ((2 * i : Nat) : Int) + 2 = ((2 * i + 2 : Nat) : Int) by omega]; exact (Int.ofNat_tmod _ _).symm
  · rw [show Int.tmod ((i + 1 : Nat) : Int) (n : Int) = (((i + 1) % n : Nat) : Int) from (Int.ofNat_tmod _ _).symm, show 2 * i + 2 = 2 * (i + 1) by omega, Nat.mul_mod_mul_left]
    have := Nat.mod_lt (i + 1) (show 0 < n by omega)
    generalize (i + 1) % n = z at *
    rw [wrap64_id (by omega) (by omega)]; omega
theorem cast_nums (i : Nat) (hi : i ≤ 1000) : wrap64 (2 * (i : Int)) = ((2 * i : Nat) : Int) ∧ wrap64 (((2 * i : Nat) : Int) + 1) = ((2 * i + 1 : Nat) : Int) ∧ wrap64 ((i : Int) + 1) = ((i + 1 : Nat) : Int) ∧
    wrap64 (((2 * i : Nat) : Int) + 0) = ((2 * i : Nat) : Int) ∧ wrap64 (((2 * i + 1 : Nat) : Int) - 1) = ((2 * i : Nat) : Int) ∧ wrap64 (((2 * i + 1 : Nat) : Int) - 0) = ((2 * i + 1 : Nat) : Int) := by
  refine ⟨?_, ?_, ?_, ?_, ?_, ?_⟩ <;> (rw [wrap64_id (by omega) (by omega)]; omega)

end Go.Proofs.YtjebcgbmlbemcaaGreatDoor.M
