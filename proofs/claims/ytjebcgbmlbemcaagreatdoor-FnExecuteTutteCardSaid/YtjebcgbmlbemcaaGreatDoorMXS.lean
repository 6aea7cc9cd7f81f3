import Derived.Lib.SplitLaws
import Derived.Test.YtjebcgbmlbemcaaGreatDoorMTL
set_option linter.unusedVariables false
set_option linter.unusedSimpArgs false
namespace Go.Proofs.YtjebcgbmlbemcaaGreatDoor.M
open Go.RowKit Go.Proofs.YtjebcgbmlbemcaaGreatDoorW.PrintWords

section
open Go.Lib
theorem xs_idx_hit (c : UInt8) : ∀ (a b : List UInt8), c ∉ a → indexByte (a ++ c :: b) c = a.length := by
  intro a
  induction a with
  | nil => intro b _; simp [indexByte]
  | cons x a ih =>
    intro b h
    have hx : x ≠ c := fun e => h (by simp [e])
    have := ih b (fun e => h (by simp [e]))
    simp only [List.cons_append, indexByte, beq_iff_eq, hx, if_false]
    rw [this, if_neg (by omega)]
    simp
theorem xs_idx_miss (c : UInt8) : ∀ (a : List UInt8), c ∉ a → indexByte a c = -1 := by
  intro a
  induction a with
  | nil => intro _; rfl
  | cons x a ih =>
    intro h
    have hx : x ≠ c := fun e => h (by simp [e])
    have := ih (fun e => h (by simp [e]))
    simp only [indexByte, beq_iff_eq, hx, if_false]
    rw [this, if_pos rfl]
theorem xs_splitK_hit (c : UInt8) (a b : List UInt8) (k : Nat) (h : c ∉ a) : splitK [c] 0 (k + 1) (a ++ c :: b) = a :: splitK [c] 0 k b := by
  rw [splitK, index_one, xs_idx_hit c a b h, if_neg (by simp)]
  simp
theorem xs_split_hit (c : UInt8) (a b : List UInt8) (h : c ∉ a) : split (a ++ c :: b) [c] = a :: split b [c] := by
  unfold split
  rw [count_one, count_one, List.count_append, List.count_cons_self, List.count_eq_zero.2 h, Nat.zero_add]
  exact xs_splitK_hit c a b _ h
theorem xs_split_free (c : UInt8) (a : List UInt8) (h : c ∉ a) : split a [c] = [a] := by
  unfold split
  rw [count_one, List.count_eq_zero.2 h]
  rfl
theorem xs_splitB (c : UInt8) (s : ByteArray) : (splitB ⟨#[c]⟩ 0 (countB s ⟨#[c]⟩) s).map (·.data.toList) = split s.data.toList [c] := splitB_data _ _ _ _
theorem xs_toList_inj {a b : ByteArray} (h : a.data.toList = b.data.toList) : a = b := by
  cases a; cases b; congr 1; exact Array.toList_inj.1 h
theorem xs_map_inj : ∀ {l m : List ByteArray}, l.map (·.data.toList) = m.map (·.data.toList) → l = m
  | [], [], _ => rfl
  | [], _ :: _, h => by simp at h
  | _ :: _, [], h => by simp at h
  | a :: l, b :: m, h => by
    simp only [List.map_cons, List.cons.injEq] at h
    rw [xs_toList_inj h.1, xs_map_inj h.2]
theorem xs_splitB_of (c : UInt8) (s : ByteArray) (l : List ByteArray) (h : split s.data.toList [c] = l.map (·.data.toList)) : splitB ⟨#[c]⟩ 0 (countB s ⟨#[c]⟩) s = l := by
  have e := (xs_splitB c s).trans h
  exact xs_map_inj e
end

end Go.Proofs.YtjebcgbmlbemcaaGreatDoor.M
