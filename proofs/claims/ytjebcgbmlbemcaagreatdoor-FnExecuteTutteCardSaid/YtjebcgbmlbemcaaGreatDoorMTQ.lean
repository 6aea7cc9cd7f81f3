import Derived.Test.YtjebcgbmlbemcaaGreatDoorMD
set_option linter.unusedVariables false
set_option linter.unusedSimpArgs false
namespace Go.Proofs.YtjebcgbmlbemcaaGreatDoor.M
open Go.RowKit Go.Proofs.YtjebcgbmlbemcaaGreatDoorW.PrintWords

/-! ### Quadrangulations of maps -/
def tqA (t b : List Int) (i : Nat) : Nat := if i % 2 = 0 then 2 * fn t (i / 2) else 2 * fn b (i / 2) + 1
def tqB (i : Nat) : Nat := if i % 2 = 0 then i + 1 else i - 1
def rngL (g : Nat → Nat) (m : Nat) : List Int := (List.range m).map (fun i => (g i : Int))
/-- The first m of a list, noughts behind. -/
def partL (g : Nat → Nat) (N m : Nat) : List Int := (List.range N).map (fun i => if i < m then (g i : Int) else 0)
theorem rngL_length (g : Nat → Nat) (m : Nat) : (rngL g m).length = m := by simp [rngL]
theorem partL_length (g : Nat → Nat) (N m : Nat) : (partL g N m).length = N := by simp [partL]
theorem rd_rngL (g : Nat → Nat) (m x : Nat) (h : x < m) : rd (rngL g m) (x : Int) = g x := by
  rw [rd_nat _ _ (by rw [rngL_length]; exact h)]; simp [rngL]
theorem fn_rngL (g : Nat → Nat) (m x : Nat) (h : x < m) : fn (rngL g m) x = g x := by unfold fn; rw [rd_rngL g m x h]; rfl
theorem partL_none (g : Nat → Nat) (N : Nat) : partL g N 0 = List.replicate N 0 := by
  refine List.ext_getElem (by simp [partL]) (fun i h1 h2 => ?_)
  simp [partL]
theorem partL_all (g : Nat → Nat) (N : Nat) : partL g N N = rngL g N := by
  refine List.ext_getElem (by simp [partL, rngL]) (fun i h1 h2 => ?_)
  have : i < N := by simpa [partL] using h1
  simp [partL, rngL, this]
theorem partL_set (g : Nat → Nat) (N m : Nat) : (partL g N m).set m (g m : Int) = partL g N (m + 1) := by
  refine List.ext_getElem (by simp [partL]) (fun i h1 h2 => ?_)
  rw [List.getElem_set]
  by_cases e : m = i
  · subst e; simp [partL]
  · rw [if_neg e]
    simp only [partL, List.getElem_map, List.getElem_range]
    by_cases a : i < m
    · rw [if_pos a, if_pos (by omega)]
    · rw [if_neg a, if_neg (by omega)]
theorem partL_two (g : Nat → Nat) (N m : Nat) : ((partL g N (2 * m)).set (2 * m) (g (2 * m) : Int)).set (2 * m + 1) (g (2 * m + 1) : Int) = partL g N (2 * (m + 1)) := by
  rw [partL_set, partL_set]; rfl
theorem partL_swap (g : Nat → Nat) (N m : Nat) : ((partL g N (2 * m)).set (2 * m + 1) (g (2 * m + 1) : Int)).set (2 * m) (g (2 * m) : Int) = partL g N (2 * (m + 1)) := by
  rw [← partL_two]; exact List.set_comm _ _ (by omega)
theorem rngL_two (g : Nat → Nat) (m : Nat) : rngL g (2 * m) ++ [(g (2 * m) : Int), (g (2 * m + 1) : Int)] = rngL g (2 * (m + 1)) := by
  rw [show 2 * (m + 1) = 2 * m + 1 + 1 by omega]
  unfold rngL
  rw [List.range_succ, List.range_succ, List.map_append, List.map_append]
  simp
theorem tqA_even (t b : List Int) (d : Nat) : tqA t b (2 * d) = 2 * fn t d := by
  unfold tqA; rw [if_pos (by omega), show 2 * d / 2 = d by omega]
theorem tqA_odd (t b : List Int) (d : Nat) : tqA t b (2 * d + 1) = 2 * fn b d + 1 := by
  unfold tqA; rw [if_neg (by omega), show (2 * d + 1) / 2 = d by omega]
theorem tqB_even (d : Nat) : tqB (2 * d) = 2 * d + 1 := by unfold tqB; rw [if_pos (by omega)]
theorem tqB_odd (d : Nat) : tqB (2 * d + 1) = 2 * d := by unfold tqB; rw [if_neg (by omega)]; omega
theorem tqT_perm {n : Nat} {t b : List Int} (ht : PermL n t) (hb : PermL n b) : PermL (2 * n) (rngL (tqA t b) (2 * n)) := by
  refine ⟨⟨rngL_length _ _, fun x hx => ?_⟩, fun x y hx hy e => ?_⟩
  · rw [rd_rngL _ _ _ hx]
    have h1 := (ht.1.fn (show x / 2 < n by omega)).2
    have h2 := (hb.1.fn (show x / 2 < n by omega)).2
    unfold tqA
    split <;> omega
  · rw [fn_rngL _ _ _ hx, fn_rngL _ _ _ hy] at e
    unfold tqA at e
    by_cases a : x % 2 = 0 <;> by_cases c : y % 2 = 0
    · rw [if_pos a, if_pos c] at e
      have := ht.2 (x / 2) (y / 2) (by omega) (by omega) (by omega)
      omega
    · rw [if_pos a, if_neg c] at e; omega
    · rw [if_neg a, if_pos c] at e; omega
    · rw [if_neg a, if_neg c] at e
      have := hb.2 (x / 2) (y / 2) (by omega) (by omega) (by omega)
      omega
theorem tqF_perm (n : Nat) : PermL (2 * n) (rngL tqB (2 * n)) := by
  refine ⟨⟨rngL_length _ _, fun x hx => ?_⟩, fun x y hx hy e => ?_⟩
  · rw [rd_rngL _ _ _ hx]
    unfold tqB
    split <;> omega
  · rw [fn_rngL _ _ _ hx, fn_rngL _ _ _ hy] at e
    unfold tqB at e
    by_cases a : x % 2 = 0 <;> by_cases c : y % 2 = 0
    · rw [if_pos a, if_pos c] at e; omega
    · rw [if_pos a, if_neg c] at e; omega
    · rw [if_neg a, if_pos c] at e; omega
    · rw [if_neg a, if_neg c] at e; omega
/-- The quadrangulation of a map. -/
noncomputable def tutM (t f : List Int) : List Int × List Int × Bool := if dec (MOK t f ∧ t.length ≤ 6) = true then (rngL (tqA t (backL (mulL f t))) (2 * t.length), rngL tqB (2 * t.length), true) else ([], [], false)
theorem tq_w1 (i : Nat) (h : i < 4194304) : wrap64 (2 * (i : Int)) = ((2 * i : Nat) : Int) := by rw [wrap64_id (by omega) (by omega)]; omega
theorem tq_w2 (i : Nat) (h : i < 4194304) : wrap64 (((2 * i : Nat) : Int) + 1) = ((2 * i + 1 : Nat) : Int) := by rw [wrap64_id (by omega) (by omega)]; omega
theorem tq_w3 (t b : List Int) (i : Nat) (h : fn t i < 4194304) : wrap64 (2 * (fn t i : Int)) = ((tqA t b (2 * i) : Nat) : Int) := by rw [tqA_even, tq_w1 _ h]
theorem tq_w4 (t b : List Int) (i : Nat) (h : fn b i < 4194304) : wrap64 (wrap64 (2 * (fn b i : Int)) + 1) = ((tqA t b (2 * i + 1) : Nat) : Int) := by rw [tqA_odd, tq_w1 _ h, tq_w2 _ h]
theorem tq_w5 (i : Nat) (h : i < 4194304) : wrap64 ((i : Int) + 1) = ((i + 1 : Nat) : Int) := by rw [wrap64_id (by omega) (by omega)]; omega

end Go.Proofs.YtjebcgbmlbemcaaGreatDoor.M
