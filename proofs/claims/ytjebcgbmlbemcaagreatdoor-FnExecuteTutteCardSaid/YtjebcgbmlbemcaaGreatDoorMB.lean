import Derived.Test.YtjebcgbmlbemcaaGreatDoorMU
set_option linter.unusedVariables false
set_option linter.unusedSimpArgs false
namespace Go.Proofs.YtjebcgbmlbemcaaGreatDoor.M
open Go.RowKit Go.Proofs.YtjebcgbmlbemcaaGreatDoorW.PrintWords

/-! ### Lists of lists -/
def rdL (xs : List (List Int)) (i : Int) : List Int := xs.getD i.toNat []
theorem rdL_nat (xs : List (List Int)) (i : Nat) (h : i < xs.length) : rdL xs (i : Int) = xs[i] := by
  simp [rdL, List.getD_eq_getElem?_getD, h]
theorem rdL_set_self (xs : List (List Int)) (i : Nat) (v : List Int) (h : i < xs.length) : rdL (xs.set i v) (i : Int) = v := by
  simp [rdL, List.getD_eq_getElem?_getD, List.getElem?_set_self h]
theorem rdL_set_ne (xs : List (List Int)) (i j : Nat) (v : List Int) (h : i ≠ j) : rdL (xs.set i v) (j : Int) = rdL xs (j : Int) := by
  simp only [rdL, List.getD_eq_getElem?_getD, Int.toNat_natCast]
  rw [List.getElem?_set_ne h]
theorem listL_ext {l m : List (List Int)} (h : l.length = m.length) (he : ∀ i : Nat, i < l.length → rdL l (i : Int) = rdL m (i : Int)) : l = m := by
  refine List.ext_getElem h (fun i h1 h2 => ?_)
  have := he i h1
  rwa [rdL_nat l i h1, rdL_nat m i h2] at this
/-- Lists that are not too long, nor too many. -/
def Small (l : List (List Int)) : Prop := l.length ≤ 1048576 ∧ ∀ i : Nat, i < l.length → (rdL l (i : Int)).length ≤ 1048576
/-- A voltage: one permutation of the sheets for each edge. -/
def VOK (t f : List Int) (k : Int) (v : List (List Int)) : Prop := MOK t f ∧ (1 ≤ k ∧ k ≤ 6) ∧ (t.length : Int) * k ≤ 12 ∧ v.length = f.length / 2 ∧ ∀ e : Nat, e < v.length → POK (rdL v (e : Int)) ∧ ((rdL v (e : Int)).length : Int) = k
theorem MOK.size {t f : List Int} (h : MOK t f) : 1 ≤ t.length ∧ t.length ≤ 12 ∧ f.length = t.length := ⟨h.1.1.1, h.1.1.2, h.2.2.1.symm⟩
theorem MOK.permT {t f : List Int} (h : MOK t f) : PermL t.length t := h.1.2
theorem MOK.permF {t f : List Int} (h : MOK t f) : PermL t.length f := by have := h.2.1.2; rw [← h.2.2.1] at this; exact this

/-! ### Rows of rows marked one behind another -/
def totL : List (List Int) → Nat
  | [] => 0
  | x :: l => x.length + totL l
def marksSS : Int → List (List Int) → List (List Int)
  | _, [] => []
  | a, x :: l => marks a x.length :: marksSS (a + (x.length : Int)) l
theorem marksSS_length (l : List (List Int)) : ∀ a : Int, (marksSS a l).length = l.length := by
  induction l with
  | nil => intro a; rfl
  | cons x l ih => intro a; simp [marksSS, ih]
theorem marksSS_get (l : List (List Int)) : ∀ (a : Int) (i : Nat), i < l.length → (marksSS a l)[i]? = some (marks (a + (totL (l.take i) : Int)) (rdL l (i : Int)).length) := by
  induction l with
  | nil => intro a i h; simp at h
  | cons x l ih =>
    intro a i h
    cases i with
    | zero => rw [rdL_nat (x :: l) 0 h]; simp [marksSS, totL]
    | succ i =>
      have h' : i < l.length := by simpa using h
      have e1 := ih (a + (x.length : Int)) i h'
      have e2 : rdL (x :: l) ((i + 1 : Nat) : Int) = rdL l (i : Int) := by rw [rdL_nat (x :: l) (i + 1) h, rdL_nat l i h']; rfl
      rw [e2]
      show (marksSS (a + (x.length : Int)) l)[i]? = _
      rw [e1, show a + (x.length : Int) + (totL (l.take i) : Int) = a + (totL ((x :: l).take (i + 1)) : Int) by simp [totL]; omega]
theorem marksSS_rd (l : List (List Int)) (a : Int) (i : Nat) (h : i < l.length) : rdL (marksSS a l) (i : Int) = marks (a + (totL (l.take i) : Int)) (rdL l (i : Int)).length := by
  have h2 : i < (marksSS a l).length := by rw [marksSS_length]; exact h
  have h3 := marksSS_get l a i h
  rw [List.getElem?_eq_getElem h2] at h3
  rw [rdL_nat _ _ h2]
  exact Option.some.inj h3
theorem totL_take (l : List (List Int)) : ∀ i : Nat, i < l.length → totL (l.take (i + 1)) = totL (l.take i) + (rdL l (i : Int)).length := by
  induction l with
  | nil => intro i h; simp at h
  | cons x l ih =>
    intro i h
    cases i with
    | zero => rw [rdL_nat (x :: l) 0 h]; simp [totL]
    | succ i =>
      have h' : i < l.length := by simpa using h
      have e2 : rdL (x :: l) ((i + 1 : Nat) : Int) = rdL l (i : Int) := by rw [rdL_nat (x :: l) (i + 1) h, rdL_nat l i h']; rfl
      have := ih i h'
      rw [e2]
      simp only [List.take_succ_cons, totL] at this ⊢
      omega
theorem totL_le (l : List (List Int)) : ∀ i : Nat, totL (l.take i) ≤ totL l := by
  induction l with
  | nil => intro i; simp [totL]
  | cons x l ih =>
    intro i
    cases i with
    | zero => simp [totL]
    | succ i => have := ih i; simp only [List.take_succ_cons, totL]; omega

end Go.Proofs.YtjebcgbmlbemcaaGreatDoor.M
