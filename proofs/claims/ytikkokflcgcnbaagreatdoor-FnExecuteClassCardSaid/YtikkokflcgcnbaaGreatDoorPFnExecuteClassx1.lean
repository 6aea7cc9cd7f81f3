-- Made by a program of this session (wip/tools) out of the loaded program; not trusted: Lean checks it.
import Derived.Test.YtikkokflcgcnbaaGreatDoorPFnExecuteClassx0
-- packed
namespace Go.Proofs.YtikkokflcgcnbaaGreatDoor.PFnExecuteClass
open Go.RowKit Go.Proofs.YtikkokflcgcnbaaGreatDoorW.PrintWords Go.Proofs.YtikkokflcgcnbaaGreatDoorW.PrintLast Go.Proofs.YtikkokflcgcnbaaGreatDoorW.PrintMore
attribute [local go_sem] max2_int min2_int max_two min_two max_three min_three max_four min_four   -- for this text's walks alone
set_option linter.unusedVariables false
set_option linter.unusedSimpArgs false

/-! ### strconv_Itoa: function 38 -/
def strconv_Itoa.f (a0 : Int) : Option ByteArray := if 0 ≤ a0 then (if a0 < 10 then some (strOfNums [48 + a0]) else none) else none
theorem strconv_Itoa.small (n : Int) (w : World) (h0 : 0 ≤ n) (h1 : n < 10) : Calls Tryz.prog 135 #[.int .i64 n] w fun e w' => e = .returned (.string (strOfNums [48 + n])) ∧ Drawn0 w w' := by
  rcases (by omega : n = 0 ∨ n = 1 ∨ n = 2 ∨ n = 3 ∨ n = 4 ∨ n = 5 ∨ n = 6 ∨ n = 7 ∨ n = 8 ∨ n = 9) with rfl | rfl | rfl | rfl | rfl | rfl | rfl | rfl | rfl | rfl
  all_goals
    go_enter Tryz.func135, Tryz.ntmps135
    go_wp2
    repeat (go_quiet (fail); try go_wp2)
    go_ret
    exact ⟨rfl, by repeat (first | exact Drawn0.refl _ | apply Drawn0.step)⟩
theorem strconv_Itoa.format (n : Int) (w : World) (h0 : 0 ≤ n) (h1 : n < 10) : Calls Tryz.prog 120 #[.int .i64 n, .int .i64 10] w fun e w' => e = .returned (.string (strOfNums [48 + n])) ∧ Drawn0 w w' := by
  have b0 : decide (0 ≤ n) = true := dT h0
  have b1 : decide (n < 100) = true := dT (by omega)
  have hw : wrap64 n = n := by unfold wrap64; omega
  go_enter Tryz.func120, Tryz.ntmps120
  go_wp2_with (go_at_call 135; refine (strconv_Itoa.small n _ h0 h1).mono ?_; rintro e w' ⟨rfl, ⟨⟨q, rfl⟩⟩⟩)
  go_ret
  exact ⟨by first | rfl | (simp; done), by repeat (first | exact Drawn0.refl _ | apply Drawn0.step)⟩
theorem strconv_Itoa.inner (n : Int) (w : World) (h0 : 0 ≤ n) (h1 : n < 10) : Calls Tryz.prog 80 #[.int .i64 n] w fun e w' => e = .returned (.string (strOfNums [48 + n])) ∧ Drawn0 w w' := by
  have hw : wrap64 n = n := by unfold wrap64; omega
  go_enter Tryz.func80, Tryz.ntmps80
  go_wp2_with (go_at_call 120; refine (strconv_Itoa.format n _ h0 h1).mono ?_; rintro e w' ⟨rfl, ⟨⟨q, rfl⟩⟩⟩)
  go_ret
  exact ⟨by first | rfl | (simp; done), by repeat (first | exact Drawn0.refl _ | apply Drawn0.step)⟩
theorem strconv_Itoa.calls (a0 : Int) (r : ByteArray) (w : World) (h : strconv_Itoa.f a0 = some r) : Calls Tryz.prog 38 #[.int .i64 a0] w fun e w' => e = .returned (.string r) ∧ Drawn0 w w' := by
  obtain ⟨h0, h1, rfl⟩ : 0 ≤ a0 ∧ a0 < 10 ∧ strOfNums [48 + a0] = r := by
    unfold strconv_Itoa.f at h
    by_cases h0 : 0 ≤ a0
    · rw [if_pos h0] at h
      by_cases h1 : a0 < 10
      · rw [if_pos h1] at h; exact ⟨h0, h1, sI h⟩
      rw [if_neg h1] at h; cases h
    rw [if_neg h0] at h; cases h
  clear h
  go_enter Tryz.func38, Tryz.ntmps38
  go_wp2_with (go_at_call 80; refine (strconv_Itoa.inner a0 _ h0 h1).mono ?_; rintro e w' ⟨rfl, ⟨⟨q, rfl⟩⟩⟩)
  go_ret
  exact ⟨by first | rfl | (simp; done), by repeat (first | exact Drawn0.refl _ | apply Drawn0.step)⟩


/-! ### impl_letterOf: function 85 -/
def impl_letterOf.f (a0 : Int) : Option (Int) := if (Go.bits .or .u8 a0 32) < 97 then (some (-1)) else (if (wrap64 ((wrap64 (Go.bits .or .u8 a0 32)) - 97)) ≥ 5 then (some (-1)) else (if a0 < 65 then (some (-1)) else (some (wrap64 ((wrap64 (Go.bits .or .u8 a0 32)) - 97)))))
set_option maxHeartbeats 8000000 in
set_option maxRecDepth 100000 in
theorem impl_letterOf.calls (a0 : Int) (r : Int) (w : World) (h : impl_letterOf.f a0 = some r) :
    Calls Tryz.prog 85 #[.int .u8 a0] w fun e w' => e = .returned (.int .i64 r) ∧ Drawn0 w w' := by
 have H : (if (Go.bits .or .u8 a0 32) < 97 then (some (-1)) else (if (wrap64 ((wrap64 (Go.bits .or .u8 a0 32)) - 97)) ≥ 5 then (some (-1)) else (if a0 < 65 then (some (-1)) else (some (wrap64 ((wrap64 (Go.bits .or .u8 a0 32)) - 97)))))) = some r := h
 clear h
 by_cases c2 : (Go.bits .or .u8 a0 32) < 97
 ·rw [if_pos c2] at H
  have c2b0 := dT c2; clear c2; obtain rfl := sI H
  go_enter Tryz.func85, Tryz.ntmps85
  go_wp2
  go_ret
  exact ⟨by first | rfl | (simp; done) | (simp [*]; done), by repeat (first | exact Drawn0.refl _ | apply Drawn0.step)⟩
 rw [if_neg c2] at H; have c2b0 := dF c2; clear c2
 by_cases c3 : (wrap64 ((wrap64 (Go.bits .or .u8 a0 32)) - 97)) ≥ 5
 ·rw [if_pos c3] at H
  have c3b0 : decide (5 ≤ (wrap64 ((wrap64 (Go.bits .or .u8 a0 32)) - 97))) = true := dT c3
  clear c3; obtain rfl := sI H
  go_enter Tryz.func85, Tryz.ntmps85
  go_wp2
  go_ret
  exact ⟨by first | rfl | (simp; done) | (simp [*]; done), by repeat (first | exact Drawn0.refl _ | apply Drawn0.step)⟩
 rw [if_neg c3] at H
 have c3b0 : decide (5 ≤ (wrap64 ((wrap64 (Go.bits .or .u8 a0 32)) - 97))) = false := dF c3
 clear c3
 by_cases c4 : a0 < 65
 ·rw [if_pos c4] at H
  have c4b0 := dT c4; clear c4; obtain rfl := sI H
  go_enter Tryz.func85, Tryz.ntmps85
  go_wp2
  go_ret
  exact ⟨by first | rfl | (simp; done) | (simp [*]; done), by repeat (first | exact Drawn0.refl _ | apply Drawn0.step)⟩
 rw [if_neg c4] at H; have c4b0 := dF c4; clear c4; obtain rfl := sI H
 go_enter Tryz.func85, Tryz.ntmps85
 go_wp2
 go_ret
 exact ⟨by first | rfl | (simp; done) | (simp [*]; done), by repeat (first | exact Drawn0.refl _ | apply Drawn0.step)⟩

/-! ### impl_WordValid: function 42 -/
def impl_WordValid.letter (x : Int) : Int := if (Go.bits .or .u8 x 32) < 97 then (-1) else if wrap64 ((wrap64 (Go.bits .or .u8 x 32)) - 97) ≥ 5 then (-1) else if x < 65 then (-1) else wrap64 ((wrap64 (Go.bits .or .u8 x 32)) - 97)
theorem impl_WordValid.letter_eq (x : Int) : impl_letterOf.f x = some (impl_WordValid.letter x) := by
  unfold impl_WordValid.letter impl_letterOf.f
  generalize Go.bits .or .u8 x 32 = b
  generalize wrap64 (wrap64 b - 97) = c
  by_cases h1 : b < 97
  · rw [if_pos h1, if_pos h1]
  rw [if_neg h1, if_neg h1]
  by_cases h2 : c ≥ 5
  · rw [if_pos h2, if_pos h2]
  rw [if_neg h2, if_neg h2]
  by_cases h3 : x < 65
  · rw [if_pos h3, if_pos h3]
  rw [if_neg h3, if_neg h3]
theorem impl_WordValid.letter_lt (x : Int) : impl_WordValid.letter x < 5 := by
  unfold impl_WordValid.letter
  generalize Go.bits .or .u8 x 32 = b
  generalize wrap64 (wrap64 b - 97) = c
  by_cases h1 : b < 97
  · rw [if_pos h1]; omega
  rw [if_neg h1]
  by_cases h2 : c ≥ 5
  · rw [if_pos h2]; omega
  rw [if_neg h2]
  by_cases h3 : x < 65
  · rw [if_pos h3]; omega
  rw [if_neg h3]; omega
def impl_WordValid.letters (s : ByteArray) : List Int := (List.range s.size).map (fun i : Nat => impl_WordValid.letter (bt s (i : Int)))
def impl_WordValid.cnt (s : ByteArray) (k : Nat) (c : Int) : Int := (((impl_WordValid.letters s).take k).count c : Nat)
def impl_WordValid.fine (s : ByteArray) (c : Int) : Bool := impl_WordValid.cnt s s.size c == 0 || impl_WordValid.cnt s s.size c == 2
def impl_WordValid.val (s : ByteArray) : Bool :=
  decide (2 ≤ s.size) && (decide (s.size ≤ 10) && ((impl_WordValid.letters s).all (fun n => decide (0 ≤ n)) && (impl_WordValid.fine s 0 && impl_WordValid.fine s 1 && impl_WordValid.fine s 2 && impl_WordValid.fine s 3 && impl_WordValid.fine s 4)))
def impl_WordValid.f (a0 : ByteArray) : Option Bool := some (impl_WordValid.val a0)

theorem impl_WordValid.cnt_succ (s : ByteArray) (k : Nat) (h : k < s.size) (c : Int) :
    impl_WordValid.cnt s (k + 1) c = if impl_WordValid.letter (bt s (k : Int)) = c then impl_WordValid.cnt s k c + 1 else impl_WordValid.cnt s k c := by
  have hl : (impl_WordValid.letters s).length = s.size := by simp [impl_WordValid.letters]
  have e : (impl_WordValid.letters s).take (k + 1) = (impl_WordValid.letters s).take k ++ [impl_WordValid.letter (bt s (k : Int))] := by
    rw [List.take_succ_eq_append_getElem (by omega)]
    simp [impl_WordValid.letters]
  unfold impl_WordValid.cnt
  rw [e, List.count_append]
  by_cases hc : impl_WordValid.letter (bt s (k : Int)) = c <;> simp [hc]
theorem impl_WordValid.cnt_bd (s : ByteArray) (k : Nat) (c : Int) : 0 ≤ impl_WordValid.cnt s k c ∧ impl_WordValid.cnt s k c ≤ k := by
  unfold impl_WordValid.cnt
  have h := List.count_le_length (a := c) (l := (impl_WordValid.letters s).take k)
  have h2 := List.length_take_le k (impl_WordValid.letters s)
  omega
theorem impl_WordValid.arr_set (w : World) (cs : Array Value) (t : TypeId) (m i : Nat) (v : Value) :
    ((w.alloc (.cells cs t)).drewN m).setCell ⟨w.heap.size, i, none⟩ v = (w.alloc (.cells (cs.setIfInBounds i v) t)).drewN m := by
  show ((w.alloc (.cells cs t)).setCell ⟨w.heap.size, i, none⟩ v).drewN m = _
  rw [World.setCell_alloc_at _ _ _ _ _ rfl]
theorem impl_WordValid.wv_fine (s : ByteArray) (h : 2 ≤ s.size) (h' : s.size ≤ 10) (hA : ∀ j : Nat, (j : Int) < s.size → 0 ≤ impl_WordValid.letter (bt s (j : Int))) :
    impl_WordValid.val s = (impl_WordValid.fine s 0 && impl_WordValid.fine s 1 && impl_WordValid.fine s 2 && impl_WordValid.fine s 3 && impl_WordValid.fine s 4) := by
  unfold impl_WordValid.val
  rw [dT h, dT h']
  have e : (impl_WordValid.letters s).all (fun n => decide (0 ≤ n)) = true := by
    rw [List.all_eq_true]
    intro x hx
    simp only [impl_WordValid.letters, List.mem_map, List.mem_range] at hx
    obtain ⟨j, hj, rfl⟩ := hx
    exact dT (hA j (by omega))
  rw [e]
  simp only [Bool.true_and]
theorem impl_WordValid.wv_bad (s : ByteArray) (i : Int) (h0 : 0 ≤ i) (h : i < s.size) (hA : impl_WordValid.letter (bt s i) < 0) : impl_WordValid.val s = false := by
  unfold impl_WordValid.val
  have e : (impl_WordValid.letters s).all (fun n => decide (0 ≤ n)) = false := by
    rw [List.all_eq_false]
    refine ⟨impl_WordValid.letter (bt s i), ?_, by simp; omega⟩
    simp only [impl_WordValid.letters, List.mem_map, List.mem_range]
    exact ⟨i.toNat, by omega, by rw [Int.toNat_of_nonneg h0]⟩
  rw [e]
  simp
theorem impl_WordValid.wv_unfine (s : ByteArray) (c : Int) (hc : c = 0 ∨ c = 1 ∨ c = 2 ∨ c = 3 ∨ c = 4) (hf : impl_WordValid.fine s c = false) : impl_WordValid.val s = false := by
  unfold impl_WordValid.val
  rcases hc with rfl | rfl | rfl | rfl | rfl <;> rw [hf] <;> simp
set_option maxHeartbeats 4000000 in
set_option maxRecDepth 100000 in
theorem impl_WordValid.wv_long (a0 : ByteArray) (w : World) (h : 2 ≤ a0.size) (h' : a0.size ≤ 10) :
    Calls Tryz.prog 42 #[.string a0] w fun e w' => e = .returned (.bool (impl_WordValid.val a0)) ∧ Below w.heap.size w w' := by
    have h1 : decide (a0.size < 2) = false := by simpa using h
    have h2 : decide (10 < a0.size) = false := by simpa using h'
    go_enter Tryz.func42, Tryz.ntmps42
    go_wp2
    go_loopw [19] (fun v19 wr => ∃ (i c0 c1 c2 c3 c4 : Int), v19 = .int .i64 i ∧ Aside0 (0 ≤ i ∧ i ≤ (a0.size : Int)) ∧ Aside0 (∀ j : Nat, (j : Int) < i → 0 ≤ impl_WordValid.letter (bt a0 (j : Int))) ∧ Aside0 (c0 = impl_WordValid.cnt a0 i.toNat 0 ∧ c1 = impl_WordValid.cnt a0 i.toNat 1 ∧ c2 = impl_WordValid.cnt a0 i.toNat 2 ∧ c3 = impl_WordValid.cnt a0 i.toNat 3 ∧ c4 = impl_WordValid.cnt a0 i.toNat 4) ∧ (∃ m, wr = (w.alloc (.cells #[.int .i64 c0, .int .i64 c1, .int .i64 c2, .int .i64 c3, .int .i64 c4] 95)).drewN m)) (fun i _ => a0.size - (intOf i).toNat)
    case atStart => exact ⟨0, 0, 0, 0, 0, 0, rfl, ⟨by omega⟩, ⟨fun j hj => by omega⟩, ⟨⟨rfl, rfl, rfl, rfl, rfl⟩⟩, 0, rfl⟩
    case round =>
      obtain ⟨i, c0, c1, c2, c3, c4, rfl, HI, HA, HC, m, rfl⟩ := hrel; obtain ⟨hi0, hi1⟩ := HI.out
      by_cases hlt : i < (a0.size : Int)
      · have b0 : decide (i < (a0.size : Int)) = true := dT hlt
        have HLT := A0_ hlt; have hx := bt_at a0 i
        have hlet := impl_WordValid.letter_eq (bt a0 i)
        have HL := A0_ hlet
        have hlt5 := impl_WordValid.letter_lt (bt a0 i)
        have HS : Aside0 (∀ c : Int, impl_WordValid.cnt a0 (i.toNat + 1) c = if impl_WordValid.letter (bt a0 i) = c then impl_WordValid.cnt a0 i.toNat c + 1 else impl_WordValid.cnt a0 i.toNat c) := ⟨fun c => by
          have := impl_WordValid.cnt_succ a0 i.toNat (by omega) c
          rwa [Int.toNat_of_nonneg hi0] at this⟩
        have HD : Aside0 ((0 ≤ c0 ∧ c0 ≤ 10) ∧ (0 ≤ c1 ∧ c1 ≤ 10) ∧ (0 ≤ c2 ∧ c2 ≤ 10) ∧ (0 ≤ c3 ∧ c3 ≤ 10) ∧ (0 ≤ c4 ∧ c4 ≤ 10)) := ⟨by
          obtain ⟨rfl, rfl, rfl, rfl, rfl⟩ := HC.out
          have d0 := impl_WordValid.cnt_bd a0 i.toNat 0
          have d1 := impl_WordValid.cnt_bd a0 i.toNat 1
          have d2 := impl_WordValid.cnt_bd a0 i.toNat 2
          have d3 := impl_WordValid.cnt_bd a0 i.toNat 3
          have d4 := impl_WordValid.cnt_bd a0 i.toNat 4
          refine ⟨?_, ?_, ?_, ?_, ?_⟩ <;> omega⟩
        obtain ⟨⟨d0, f0⟩, ⟨d1, f1⟩, ⟨d2, f2⟩, ⟨d3, f3⟩, ⟨d4, f4⟩⟩ := HD.out; clear hlet HD
        generalize hn : impl_WordValid.letter (bt a0 i) = n at *
        have HN := A0_ hn; clear hn; have p0 := eq_true hi0; have p1 := eq_true hlt; clear hlt
        rcases (by omega : n < 0 ∨ n = 0 ∨ n = 1 ∨ n = 2 ∨ n = 3 ∨ n = 4) with hc | hc | hc | hc | hc | hc
        · have HV : Aside0 (impl_WordValid.val a0 = false) := ⟨impl_WordValid.wv_bad a0 i hi0 HLT.out (by rw [HN.out]; exact hc)⟩
          have b1 : decide (n < 0) = true := dT hc
          go_wp2_with (go_at_call 85; refine (impl_letterOf.calls _ _ _ HL.out).mono ?_; rintro e w' ⟨rfl, ⟨⟨q, rfl⟩⟩⟩)
          go_ret
          exact ⟨by rw [HV.out]; rfl, by first | exact bN (bN ((Below.refl _ _).alloc (Nat.le_refl _) _) _) _ | exact bN ((Below.refl _ _).alloc (Nat.le_refl _) _) _⟩
        · obtain rfl : n = 0 := by omega
          have HJ : Aside0 (∀ c : Int, impl_WordValid.cnt a0 (i.toNat + 1) c = if (0 : Int) = c then impl_WordValid.cnt a0 i.toNat c + 1 else impl_WordValid.cnt a0 i.toNat c) := ⟨fun c => HS.out c⟩
          clear HS
          go_wp2_with (go_at_call 85; refine (impl_letterOf.calls _ _ _ HL.out).mono ?_; rintro e w' ⟨rfl, ⟨⟨q, rfl⟩⟩⟩)
          go_roundw
          case rel => exact ⟨i + 1, c0 + 1, c1, c2, c3, c4, rfl, ⟨by have := HI.out; have := HLT.out; omega⟩, ⟨by
            intro j hj
            by_cases e : (j : Int) = i
            · rw [e, HN.out]; omega
            exact HA.out j (by omega)⟩, ⟨by
            have e : (i + 1).toNat = i.toNat + 1 := by have := HI.out; omega
            obtain ⟨e0, e1, e2, e3, e4⟩ := HC.out
            rw [e, HJ.out, HJ.out, HJ.out, HJ.out, HJ.out, ← e0, ← e1, ← e2, ← e3, ← e4]
            exact ⟨rfl, rfl, rfl, rfl, rfl⟩⟩, _, impl_WordValid.arr_set _ _ _ _ _ _⟩
          case measure => simp [intOf]; have := HI.out; have := HLT.out; omega
        · obtain rfl : n = 1 := by omega
          have HJ : Aside0 (∀ c : Int, impl_WordValid.cnt a0 (i.toNat + 1) c = if (1 : Int) = c then impl_WordValid.cnt a0 i.toNat c + 1 else impl_WordValid.cnt a0 i.toNat c) := ⟨fun c => HS.out c⟩
          clear HS
          go_wp2_with (go_at_call 85; refine (impl_letterOf.calls _ _ _ HL.out).mono ?_; rintro e w' ⟨rfl, ⟨⟨q, rfl⟩⟩⟩)
          go_roundw
          case rel => exact ⟨i + 1, c0, c1 + 1, c2, c3, c4, rfl, ⟨by have := HI.out; have := HLT.out; omega⟩, ⟨by
            intro j hj
            by_cases e : (j : Int) = i
            · rw [e, HN.out]; omega
            exact HA.out j (by omega)⟩, ⟨by
            have e : (i + 1).toNat = i.toNat + 1 := by have := HI.out; omega
            obtain ⟨e0, e1, e2, e3, e4⟩ := HC.out
            rw [e, HJ.out, HJ.out, HJ.out, HJ.out, HJ.out, ← e0, ← e1, ← e2, ← e3, ← e4]
            exact ⟨rfl, rfl, rfl, rfl, rfl⟩⟩, _, impl_WordValid.arr_set _ _ _ _ _ _⟩
          case measure => simp [intOf]; have := HI.out; have := HLT.out; omega
        · obtain rfl : n = 2 := by omega
          have HJ : Aside0 (∀ c : Int, impl_WordValid.cnt a0 (i.toNat + 1) c = if (2 : Int) = c then impl_WordValid.cnt a0 i.toNat c + 1 else impl_WordValid.cnt a0 i.toNat c) := ⟨fun c => HS.out c⟩
          clear HS
          go_wp2_with (go_at_call 85; refine (impl_letterOf.calls _ _ _ HL.out).mono ?_; rintro e w' ⟨rfl, ⟨⟨q, rfl⟩⟩⟩)
          go_roundw
          case rel => exact ⟨i + 1, c0, c1, c2 + 1, c3, c4, rfl, ⟨by have := HI.out; have := HLT.out; omega⟩, ⟨by
            intro j hj
            by_cases e : (j : Int) = i
            · rw [e, HN.out]; omega
            exact HA.out j (by omega)⟩, ⟨by
            have e : (i + 1).toNat = i.toNat + 1 := by have := HI.out; omega
            obtain ⟨e0, e1, e2, e3, e4⟩ := HC.out
            rw [e, HJ.out, HJ.out, HJ.out, HJ.out, HJ.out, ← e0, ← e1, ← e2, ← e3, ← e4]
            exact ⟨rfl, rfl, rfl, rfl, rfl⟩⟩, _, impl_WordValid.arr_set _ _ _ _ _ _⟩
          case measure => simp [intOf]; have := HI.out; have := HLT.out; omega
        · obtain rfl : n = 3 := by omega
          have HJ : Aside0 (∀ c : Int, impl_WordValid.cnt a0 (i.toNat + 1) c = if (3 : Int) = c then impl_WordValid.cnt a0 i.toNat c + 1 else impl_WordValid.cnt a0 i.toNat c) := ⟨fun c => HS.out c⟩
          clear HS
          go_wp2_with (go_at_call 85; refine (impl_letterOf.calls _ _ _ HL.out).mono ?_; rintro e w' ⟨rfl, ⟨⟨q, rfl⟩⟩⟩)
          go_roundw
          case rel => exact ⟨i + 1, c0, c1, c2, c3 + 1, c4, rfl, ⟨by have := HI.out; have := HLT.out; omega⟩, ⟨by
            intro j hj
            by_cases e : (j : Int) = i
            · rw [e, HN.out]; omega
            exact HA.out j (by omega)⟩, ⟨by
            have e : (i + 1).toNat = i.toNat + 1 := by have := HI.out; omega
            obtain ⟨e0, e1, e2, e3, e4⟩ := HC.out
            rw [e, HJ.out, HJ.out, HJ.out, HJ.out, HJ.out, ← e0, ← e1, ← e2, ← e3, ← e4]
            exact ⟨rfl, rfl, rfl, rfl, rfl⟩⟩, _, impl_WordValid.arr_set _ _ _ _ _ _⟩
          case measure => simp [intOf]; have := HI.out; have := HLT.out; omega
        obtain rfl : n = 4 := by omega
        have HJ : Aside0 (∀ c : Int, impl_WordValid.cnt a0 (i.toNat + 1) c = if (4 : Int) = c then impl_WordValid.cnt a0 i.toNat c + 1 else impl_WordValid.cnt a0 i.toNat c) := ⟨fun c => HS.out c⟩
        clear HS
        go_wp2_with (go_at_call 85; refine (impl_letterOf.calls _ _ _ HL.out).mono ?_; rintro e w' ⟨rfl, ⟨⟨q, rfl⟩⟩⟩)
        go_roundw
        case rel => exact ⟨i + 1, c0, c1, c2, c3, c4 + 1, rfl, ⟨by have := HI.out; have := HLT.out; omega⟩, ⟨by
          intro j hj
          by_cases e : (j : Int) = i
          · rw [e, HN.out]; omega
          exact HA.out j (by omega)⟩, ⟨by
          have e : (i + 1).toNat = i.toNat + 1 := by have := HI.out; omega
          obtain ⟨e0, e1, e2, e3, e4⟩ := HC.out
          rw [e, HJ.out, HJ.out, HJ.out, HJ.out, HJ.out, ← e0, ← e1, ← e2, ← e3, ← e4]
          exact ⟨rfl, rfl, rfl, rfl, rfl⟩⟩, _, impl_WordValid.arr_set _ _ _ _ _ _⟩
        case measure => simp [intOf]; have := HI.out; have := HLT.out; omega
      obtain rfl : i = (a0.size : Int) := by omega
      have HF : Aside0 (∀ c : Int, impl_WordValid.fine a0 c = (impl_WordValid.cnt a0 a0.size c == 0 || impl_WordValid.cnt a0 a0.size c == 2)) := ⟨fun c => rfl⟩
      have HV := A0_ (impl_WordValid.wv_fine a0 h h' HA.out)
      have HE : Aside0 (c0 = impl_WordValid.cnt a0 a0.size 0 ∧ c1 = impl_WordValid.cnt a0 a0.size 1 ∧ c2 = impl_WordValid.cnt a0 a0.size 2 ∧ c3 = impl_WordValid.cnt a0 a0.size 3 ∧ c4 = impl_WordValid.cnt a0 a0.size 4) := HC
      have i0 : ∀ w, (Instr.index 95 (.agg #[.int .i64 c0, .int .i64 c1, .int .i64 c2, .int .i64 c3, .int .i64 c4]) (.int .i64 0)).run Tryz.prog w = .ok (.int .i64 c0) w := fun _ => by kernel_rfl
      have i1 : ∀ w, (Instr.index 95 (.agg #[.int .i64 c0, .int .i64 c1, .int .i64 c2, .int .i64 c3, .int .i64 c4]) (.int .i64 1)).run Tryz.prog w = .ok (.int .i64 c1) w := fun _ => by kernel_rfl
      have i2 : ∀ w, (Instr.index 95 (.agg #[.int .i64 c0, .int .i64 c1, .int .i64 c2, .int .i64 c3, .int .i64 c4]) (.int .i64 2)).run Tryz.prog w = .ok (.int .i64 c2) w := fun _ => by kernel_rfl
      have i3 : ∀ w, (Instr.index 95 (.agg #[.int .i64 c0, .int .i64 c1, .int .i64 c2, .int .i64 c3, .int .i64 c4]) (.int .i64 3)).run Tryz.prog w = .ok (.int .i64 c3) w := fun _ => by kernel_rfl
      have i4 : ∀ w, (Instr.index 95 (.agg #[.int .i64 c0, .int .i64 c1, .int .i64 c2, .int .i64 c3, .int .i64 c4]) (.int .i64 4)).run Tryz.prog w = .ok (.int .i64 c4) w := fun _ => by kernel_rfl
      clear hlt HC HA
      go_wp2
      go_loopw [35] (fun v35 wr => ∃ (j : Nat), v35 = .int .i64 (j : Int) ∧ j ≤ 5 ∧ Aside0 (∀ c : Nat, c < j → impl_WordValid.fine a0 (c : Int) = true) ∧ (∃ m, wr = (w.alloc (.cells #[.int .i64 c0, .int .i64 c1, .int .i64 c2, .int .i64 c3, .int .i64 c4] 95)).drewN m)) (fun i _ => 5 - (intOf i).toNat)
      case atStart => exact ⟨0, rfl, by omega, ⟨fun c hc => by omega⟩, _, rfl⟩
      case round =>
        obtain ⟨j, rfl, hj, HG, m2, rfl⟩ := hrel
        rcases (by omega : j = 5 ∨ j = 0 ∨ j = 1 ∨ j = 2 ∨ j = 3 ∨ j = 4) with rfl | rfl | rfl | rfl | rfl | rfl
        · go_wp2
          go_ret
          refine ⟨?_, by exact bN ((Below.refl _ _).alloc (Nat.le_refl _) _) _⟩
          rw [HV.out]
          have g0 := HG.out 0 (by omega)
          have g1 := HG.out 1 (by omega)
          have g2 := HG.out 2 (by omega)
          have g3 := HG.out 3 (by omega)
          have g4 := HG.out 4 (by omega)
          rw [show impl_WordValid.fine a0 0 = true from g0, show impl_WordValid.fine a0 1 = true from g1, show impl_WordValid.fine a0 2 = true from g2, show impl_WordValid.fine a0 3 = true from g3, show impl_WordValid.fine a0 4 = true from g4]
          rfl
        · have hF := HF.out 0
          have hE := HE.out.1
          rw [← hE] at hF
          by_cases z : c0 = 0 ∨ c0 = 2
          · have HT : Aside0 (impl_WordValid.fine a0 0 = true) := ⟨by rw [hF]; rcases z with z | z <;> rw [z] <;> rfl⟩
            clear hF hE; have HZ := A0_ z
            rcases z with z | z
            · have y0 : (c0 == 0) = true := beq_iff_eq.2 z
              have y1 : (c0 != 0) = false := by rw [z]; rfl
              clear z
              go_wp2
              go_roundw
              case rel => exact ⟨1, rfl, by omega, ⟨fun c hc => by
                by_cases e : c = 0
                · subst e; exact HT.out
                exact HG.out c (by omega)⟩, _, rfl⟩
              case measure => simp [intOf]
            have y0 : (c0 == 0) = false := by rw [z]; rfl
            have y1 : (c0 != 0) = true := by rw [z]; rfl
            have y2 : (c0 == 2) = true := by rw [z]; rfl
            have y3 : (c0 != 2) = false := by rw [z]; rfl
            clear z
            go_wp2
            go_roundw
            case rel => exact ⟨1, rfl, by omega, ⟨fun c hc => by
              by_cases e : c = 0
              · subst e; exact HT.out
              exact HG.out c (by omega)⟩, _, rfl⟩
            case measure => simp [intOf]
          have z1 : (c0 == 0) = false := beq_eq_false_iff_ne.2 (fun h => z (.inl h))
          have z2 : (c0 == 2) = false := beq_eq_false_iff_ne.2 (fun h => z (.inr h))
          have HT : Aside0 (impl_WordValid.val a0 = false) := ⟨impl_WordValid.wv_unfine a0 0 (by omega) (by rw [hF, z1, z2]; rfl)⟩
          have y1 : (c0 != 0) = true := bne_iff_ne.2 (fun h => z (.inl h))
          have y3 : (c0 != 2) = true := bne_iff_ne.2 (fun h => z (.inr h))
          clear hF hE z
          go_wp2
          go_ret
          exact ⟨by rw [HT.out]; rfl, by exact bN ((Below.refl _ _).alloc (Nat.le_refl _) _) _⟩
        · have hF := HF.out 1
          have hE := HE.out.2.1
          rw [← hE] at hF
          by_cases z : c1 = 0 ∨ c1 = 2
          · have HT : Aside0 (impl_WordValid.fine a0 1 = true) := ⟨by rw [hF]; rcases z with z | z <;> rw [z] <;> rfl⟩
            clear hF hE; have HZ := A0_ z
            rcases z with z | z
            · have y0 : (c1 == 0) = true := beq_iff_eq.2 z
              have y1 : (c1 != 0) = false := by rw [z]; rfl
              clear z
              go_wp2
              go_roundw
              case rel => exact ⟨2, rfl, by omega, ⟨fun c hc => by
                by_cases e : c = 1
                · subst e; exact HT.out
                exact HG.out c (by omega)⟩, _, rfl⟩
              case measure => simp [intOf]
            have y0 : (c1 == 0) = false := by rw [z]; rfl
            have y1 : (c1 != 0) = true := by rw [z]; rfl
            have y2 : (c1 == 2) = true := by rw [z]; rfl
            have y3 : (c1 != 2) = false := by rw [z]; rfl
            clear z
            go_wp2
            go_roundw
            case rel => exact ⟨2, rfl, by omega, ⟨fun c hc => by
              by_cases e : c = 1
              · subst e; exact HT.out
              exact HG.out c (by omega)⟩, _, rfl⟩
            case measure => simp [intOf]
          have z1 : (c1 == 0) = false := beq_eq_false_iff_ne.2 (fun h => z (.inl h))
          have z2 : (c1 == 2) = false := beq_eq_false_iff_ne.2 (fun h => z (.inr h))
          have HT : Aside0 (impl_WordValid.val a0 = false) := ⟨impl_WordValid.wv_unfine a0 1 (by omega) (by rw [hF, z1, z2]; rfl)⟩
          have y1 : (c1 != 0) = true := bne_iff_ne.2 (fun h => z (.inl h))
          have y3 : (c1 != 2) = true := bne_iff_ne.2 (fun h => z (.inr h))
          clear hF hE z
          go_wp2
          go_ret
          exact ⟨by rw [HT.out]; rfl, by exact bN ((Below.refl _ _).alloc (Nat.le_refl _) _) _⟩
        · have hF := HF.out 2
          have hE := HE.out.2.2.1
          rw [← hE] at hF
          by_cases z : c2 = 0 ∨ c2 = 2
          · have HT : Aside0 (impl_WordValid.fine a0 2 = true) := ⟨by rw [hF]; rcases z with z | z <;> rw [z] <;> rfl⟩
            clear hF hE; have HZ := A0_ z
            rcases z with z | z
            · have y0 : (c2 == 0) = true := beq_iff_eq.2 z
              have y1 : (c2 != 0) = false := by rw [z]; rfl
              clear z
              go_wp2
              go_roundw
              case rel => exact ⟨3, rfl, by omega, ⟨fun c hc => by
                by_cases e : c = 2
                · subst e; exact HT.out
                exact HG.out c (by omega)⟩, _, rfl⟩
              case measure => simp [intOf]
            have y0 : (c2 == 0) = false := by rw [z]; rfl
            have y1 : (c2 != 0) = true := by rw [z]; rfl
            have y2 : (c2 == 2) = true := by rw [z]; rfl
            have y3 : (c2 != 2) = false := by rw [z]; rfl
            clear z
            go_wp2
            go_roundw
            case rel => exact ⟨3, rfl, by omega, ⟨fun c hc => by
              by_cases e : c = 2
              · subst e; exact HT.out
              exact HG.out c (by omega)⟩, _, rfl⟩
            case measure => simp [intOf]
          have z1 : (c2 == 0) = false := beq_eq_false_iff_ne.2 (fun h => z (.inl h))
          have z2 : (c2 == 2) = false := beq_eq_false_iff_ne.2 (fun h => z (.inr h))
          have HT : Aside0 (impl_WordValid.val a0 = false) := ⟨impl_WordValid.wv_unfine a0 2 (by omega) (by rw [hF, z1, z2]; rfl)⟩
          have y1 : (c2 != 0) = true := bne_iff_ne.2 (fun h => z (.inl h))
          have y3 : (c2 != 2) = true := bne_iff_ne.2 (fun h => z (.inr h))
          clear hF hE z
          go_wp2
          go_ret
          exact ⟨by rw [HT.out]; rfl, by exact bN ((Below.refl _ _).alloc (Nat.le_refl _) _) _⟩
        · have hF := HF.out 3
          have hE := HE.out.2.2.2.1
          rw [← hE] at hF
          by_cases z : c3 = 0 ∨ c3 = 2
          · have HT : Aside0 (impl_WordValid.fine a0 3 = true) := ⟨by rw [hF]; rcases z with z | z <;> rw [z] <;> rfl⟩
            clear hF hE; have HZ := A0_ z
            rcases z with z | z
            · have y0 : (c3 == 0) = true := beq_iff_eq.2 z
              have y1 : (c3 != 0) = false := by rw [z]; rfl
              clear z
              go_wp2
              go_roundw
              case rel => exact ⟨4, rfl, by omega, ⟨fun c hc => by
                by_cases e : c = 3
                · subst e; exact HT.out
                exact HG.out c (by omega)⟩, _, rfl⟩
              case measure => simp [intOf]
            have y0 : (c3 == 0) = false := by rw [z]; rfl
            have y1 : (c3 != 0) = true := by rw [z]; rfl
            have y2 : (c3 == 2) = true := by rw [z]; rfl
            have y3 : (c3 != 2) = false := by rw [z]; rfl
            clear z
            go_wp2
            go_roundw
            case rel => exact ⟨4, rfl, by omega, ⟨fun c hc => by
              by_cases e : c = 3
              · subst e; exact HT.out
              exact HG.out c (by omega)⟩, _, rfl⟩
            case measure => simp [intOf]
          have z1 : (c3 == 0) = false := beq_eq_false_iff_ne.2 (fun h => z (.inl h))
          have z2 : (c3 == 2) = false := beq_eq_false_iff_ne.2 (fun h => z (.inr h))
          have HT : Aside0 (impl_WordValid.val a0 = false) := ⟨impl_WordValid.wv_unfine a0 3 (by omega) (by rw [hF, z1, z2]; rfl)⟩
          have y1 : (c3 != 0) = true := bne_iff_ne.2 (fun h => z (.inl h))
          have y3 : (c3 != 2) = true := bne_iff_ne.2 (fun h => z (.inr h))
          clear hF hE z
          go_wp2
          go_ret
          exact ⟨by rw [HT.out]; rfl, by exact bN ((Below.refl _ _).alloc (Nat.le_refl _) _) _⟩
        have hF := HF.out 4; have hE := HE.out.2.2.2.2
        rw [← hE] at hF
        by_cases z : c4 = 0 ∨ c4 = 2
        · have HT : Aside0 (impl_WordValid.fine a0 4 = true) := ⟨by rw [hF]; rcases z with z | z <;> rw [z] <;> rfl⟩
          clear hF hE; have HZ := A0_ z
          rcases z with z | z
          · have y0 : (c4 == 0) = true := beq_iff_eq.2 z
            have y1 : (c4 != 0) = false := by rw [z]; rfl
            clear z
            go_wp2
            go_roundw
            case rel => exact ⟨5, rfl, by omega, ⟨fun c hc => by
              by_cases e : c = 4
              · subst e; exact HT.out
              exact HG.out c (by omega)⟩, _, rfl⟩
            case measure => simp [intOf]
          have y0 : (c4 == 0) = false := by rw [z]; rfl
          have y1 : (c4 != 0) = true := by rw [z]; rfl
          have y2 : (c4 == 2) = true := by rw [z]; rfl
          have y3 : (c4 != 2) = false := by rw [z]; rfl
          clear z
          go_wp2
          go_roundw
          case rel => exact ⟨5, rfl, by omega, ⟨fun c hc => by
            by_cases e : c = 4
            · subst e; exact HT.out
            exact HG.out c (by omega)⟩, _, rfl⟩
          case measure => simp [intOf]
        have z1 : (c4 == 0) = false := beq_eq_false_iff_ne.2 (fun h => z (.inl h))
        have z2 : (c4 == 2) = false := beq_eq_false_iff_ne.2 (fun h => z (.inr h))
        have HT : Aside0 (impl_WordValid.val a0 = false) := ⟨impl_WordValid.wv_unfine a0 4 (by omega) (by rw [hF, z1, z2]; rfl)⟩
        have y1 : (c4 != 0) = true := bne_iff_ne.2 (fun h => z (.inl h))
        have y3 : (c4 != 2) = true := bne_iff_ne.2 (fun h => z (.inr h))
        clear hF hE z
        go_wp2
        go_ret
        exact ⟨by rw [HT.out]; rfl, by exact bN ((Below.refl _ _).alloc (Nat.le_refl _) _) _⟩

theorem impl_WordValid.calls (a0 : ByteArray) (r : Bool) (w : World) (h : impl_WordValid.f a0 = some r) :
    Calls Tryz.prog 42 #[.string a0] w fun e w' => e = .returned (.bool r) ∧ Below w.heap.size w w' := by
  obtain rfl := sI h
  by_cases h1 : 2 ≤ a0.size
  · by_cases h2 : a0.size ≤ 10
    · exact impl_WordValid.wv_long a0 w h1 h2
    have HV : Aside0 (impl_WordValid.val a0 = false) := ⟨by unfold impl_WordValid.val; rw [dF h2]; simp⟩
    have b1 : decide (a0.size < 2) = false := by simpa using h1
    have b2 : decide (10 < a0.size) = true := by simpa using h2
    clear h
    go_enter Tryz.func42, Tryz.ntmps42
    go_wp2
    go_ret
    exact ⟨by rw [HV.out]; rfl, Below.refl _ _⟩
  have HV : Aside0 (impl_WordValid.val a0 = false) := ⟨by unfold impl_WordValid.val; rw [dF h1]; simp⟩
  have b1 : decide (a0.size < 2) = true := by simpa using h1
  clear h
  go_enter Tryz.func42, Tryz.ntmps42
  go_wp2
  go_ret
  exact ⟨by rw [HV.out]; rfl, Below.refl _ _⟩


/-! ### impl_still: function 98 -/
def impl_still.l0 : Nat → List Int → Int → Int → Option (List Int)
  | 0, _, _, _ => none
  | k + 1, x3, x8, x9 => if x9 < x8 then (if 0 ≤ x9 then (if x9 < (x3.length : Int) then (impl_still.l0 k (x3.set (x9 : Int).toNat x9) x8 (wrap64 (x9 + 1))) else (none)) else (none)) else (some x3)
def impl_still.f (k : Nat) (a0 : Int) : Option (List Int) := if 0 ≤ a0 then (if (a0 : Int).toNat ≤ 35184372088832 then ((some (List.replicate (a0 : Int).toNat 0 : List Int)).bind fun y101 => (impl_still.l0 k y101 (y101.length : Int) 0)) else (none)) else (none)
set_option maxHeartbeats 8000000 in
set_option maxRecDepth 100000 in
theorem impl_still.calls (k : Nat) (a0 : Int) (r : List Int) (w : World) (h : impl_still.f k a0 = some r) :
    Calls Tryz.prog 98 #[.int .i64 a0] w fun e w' => ∃ v0_ : Value, e = .returned (v0_) ∧ Kd.R (Kd.int .i64) 3 w' w.heap.size (fun _ => True) v0_ r ∧ Below w.heap.size w w' := by
 have HB := A0_ (Below.refl w.heap.size w)
 have H : (if 0 ≤ a0 then (if (a0 : Int).toNat ≤ 35184372088832 then ((some (List.replicate (a0 : Int).toNat 0 : List Int)).bind fun y101 => (impl_still.l0 k y101 (y101.length : Int) 0)) else (none)) else (none)) = some r := h
 clear h
 by_cases c2 : 0 ≤ a0
 ·rw [if_pos c2] at H
  have c2b0 := eq_true c2; have c2b1 := dT c2; clear c2
  by_cases c3 : (a0 : Int).toNat ≤ 35184372088832
  ·rw [if_pos c3] at H
   have c3b0 := eq_true c3; have c3b1 := dT c3; clear c3
   obtain ⟨y101, hy101⟩ : ∃ y_ : List Int, y_ = (List.replicate (a0 : Int).toNat 0) := ⟨_, rfl⟩
   replace H : (impl_still.l0 k y101 (y101.length : Int) 0) = some r := zH hy101 H
   have Ny101 := A0_ hy101; clear hy101; have H' := A0_ H; clear H
   go_enter Tryz.func98, Tryz.ntmps98
   go_wp2_with (first | ((with_reducible refine gD (N := 6) rfl ?_); refine Kd.R_make (Kd.int .i64) _ 3 rfl (N := 6) rfl 23 _ _ rfl a0 rfl rfl Tryz.underlying23 (.int .i64 0) 8 info3 rfl (by decide) (by omega) 0 (ok := fun _ => True) (okp := fun _ => True) rfl (fun _ hk => hk) trivial (zd) (Nat.le_trans (Nat.mul_le_mul_right _ (zd : a0.toNat ≤ 35184372088832)) (by omega)) (Below.refl _ _) (Nat.le_refl _) ?_; intro v102 w4 ho5 hb hg_ hnew_; clear hg_ hnew_; (first | rw [← Ny101.out] at ho5 | (simp only [Int.reduceToNat] at ho5; rw [← Ny101.out] at ho5)); have HO103 := A0_ (rL ho5 (bZ (zB_ HB))); replace HB := zB HB hb; clear hb ho5; obtain ⟨Ao6, co6, eo6⟩ := rS HO103.out; subst eo6))
   go_loopg [9] k (fun kq v9 w' => ∃ (x3_1 : List Int) (x9_1 : Int), v9 = .int .i64 x9_1 ∧ Aside0 (impl_still.l0 kq x3_1 (y101.length : Int) x9_1 = some r) ∧ Aside0 (kq ≤ k) ∧ Aside0 (Kd.R (Kd.int .i64) 3 w' w.heap.size (fun _ => True) (.slice Ao6 y101.length co6) x3_1) ∧ Aside0 (Below w.heap.size w w'))
   case atStart => exact ⟨(y101), (0), zt, H', ⟨Nat.le_refl _⟩, ⟨zR_ HO103⟩, ⟨zB_ HB⟩⟩
   case round =>
    clear H'; (try clear c2); (try clear c2b0); (try clear c2b1); (try clear p2); (try clear c3); (try clear c3b0); (try clear c3b1); obtain ⟨x3_1, x9_1, rfl, HA, HK1, HO_3, HB⟩ := hrel; have hl3_1 := (rR HO_3.out).1; rw [hl3_1] at HO_3; (try simp only [hl3_1])
    cases gk with
    | zero => exact absurd HA.out (by simp [impl_still.l0])
    | succ k1 =>
     have H := HA.out; clear HA; simp only [impl_still.l0] at H
     by_cases c7 : x9_1 < (y101.length : Int)
     ·rw [if_pos c7] at H
      have c7b0 := dT c7; (try simp only [hl3_1] at c7b0); clear c7
      by_cases c8 : 0 ≤ x9_1
      ·rw [if_pos c8] at H
       have c8b0 := dT c8; clear c8
       by_cases c9 : x9_1 < (x3_1.length : Int)
       ·rw [if_pos c9] at H
        have c9b0 := dT c9; (try simp only [hl3_1] at c9b0); clear c9
        obtain ⟨y104, hy104⟩ : ∃ y_ : List Int, y_ = (x3_1.set (x9_1 : Int).toNat x9_1) := ⟨_, rfl⟩
        replace H : (impl_still.l0 k1 y104 (y101.length : Int) (wrap64 (x9_1 + 1))) = some r := zH hy104 H
        have Ny104 := A0_ hy104; clear hy104; have H' := A0_ H; clear H
        have p10 : 0 ≤ (x9_1 : Int) := zd
        have q10 : (x9_1 : Int) < ((x3_1.length : Int) : Int) := zd
        obtain ⟨go10, co10, eo10, gb10, gl10, cl10, HG10⟩ := Kd.R_form HO_3.out (by omega)
        (first | cases eo10 | (injection eo10 with ea_ en_ ec_; (first | subst ea_ | (injection ea_ with ea_; subst ea_)); subst ec_; clear en_))
        have GB10 := A0_ gb10; have GG10 := A0_ HG10; clear gb10 gl10 HG10
        obtain ⟨hx10_0, hf10_0⟩ := Kd.R_celln 0 HO_3.out (x9_1 : Int) p10 q10
        replace p10 := eq_true p10; replace q10 := eq_true q10
        have HP11 := Kd.R_putg HO_3.out (x9_1 : Int) x9_1
        go_wp2_with (first | ((with_reducible refine gS (t := 3) (p := 15) rfl ?_); refine store_event (t := 3) (p := 15) (v := ?vo_w12) (w1 := (wr.setCell ⟨go10, (x9_1 : Int).toNat, none⟩ (.int .i64 x9_1))) ?hg ?ho ?hn ?hr ?_; (case ho => rfl); (case hg => rfl); (case hn => rfl); (case hr => first | (go_simp; done) | (go_simp; rfl)); intro w12 hw; have hg : wr.grownBy w12 (some go10) := (by rw [hw]; exact HP11.2); have hp_ : Kd.R (Kd.int .i64) 3 w12 w.heap.size (fun _ => True) (.slice (some ⟨go10, 0, none⟩) x3_1.length co6) y104 := (by rw [hw, Ny104.out]; exact HP11.1); clear HP11; replace HO_3 := A0_ (hp_); replace HB := A0_ ((by rw [hw]; exact bS (HB.out) GB10.out : Below w.heap.size w w12)); clear hg hw hp_))
        (try simp only [← hl3_1])
        go_roundg k1
        case measure => have := HK1.out; omega
        case rel => exact ⟨(y104), (wrap64 (x9_1 + 1)), zt, H', ⟨by have := HK1.out; omega⟩, ⟨by (try simp only [hl3_1]); (with_reducible repeat (first | apply rA | apply rN | apply rD)); exact HO_3.out⟩, ⟨zB_ HB⟩⟩
       rw [if_neg c9] at H
       exact absurd H (by simp)
      rw [if_neg c8] at H
      exact absurd H (by simp)
     rw [if_neg c7] at H; have c7b0 := dF c7; (try simp only [hl3_1] at c7b0); clear c7; obtain rfl := sI H
     go_wp2
     go_ret
     exact ⟨_, by first | rfl | (simp [*] <;> rfl), zR_ HO_3, zB_ HB⟩
  rw [if_neg c3] at H
  exact absurd H (by simp)
 rw [if_neg c2] at H
 exact absurd H (by simp)

end Go.Proofs.YtikkokflcgcnbaaGreatDoor.PFnExecuteClass
