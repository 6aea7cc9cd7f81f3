-- Made by a program of this session (wip/tools) out of the loaded program; not trusted: Lean checks it.
import Derived.Test.YtpfnchjbbagmdaaDoorPFnWordTurnx0
import Derived.Test.YtpfnchjbbagmdaaDoorPFnWordTurnx1
import Derived.Test.YtpfnchjbbagmdaaDoorPFnWordTurnx2
namespace Go.Proofs.YtpfnchjbbagmdaaDoor.PFnWordTurn
open Go.RowKit Go.Proofs.YtpfnchjbbagmdaaDoorW.PrintWords Go.Proofs.YtpfnchjbbagmdaaDoorW.PrintLast Go.Proofs.YtpfnchjbbagmdaaDoorW.PrintMore
attribute [local go_sem] max2_int min2_int max_two min_two max_three min_three max_four min_four   -- for this text's walks alone
set_option linter.unusedVariables false
set_option linter.unusedSimpArgs false

/-! ### impl_WordValid: function 31 -/
def impl_WordValid.letter (x : Int) : Int := if (Go.bits .or .u8 x 32) < 97 then (-1) else if wrap64 ((wrap64 (Go.bits .or .u8 x 32)) - 97) ≥ 5 then (-1) else if x < 65 then (-1) else wrap64 ((wrap64 (Go.bits .or .u8 x 32)) - 97)
theorem impl_WordValid.letter_eq (x : Int) : impl_letterOf.f x = some (impl_WordValid.letter x) := by
  unfold impl_WordValid.letter impl_letterOf.f
  generalize Go.bits .or .u8 x 32 = b
  generalize wrap64 (wrap64 b - 97) = c
  by_cases h1 : b < 97
  · rw [if_pos h1, if_pos h1]
  · rw [if_neg h1, if_neg h1]
    by_cases h2 : c ≥ 5
    · rw [if_pos h2, if_pos h2]
    · rw [if_neg h2, if_neg h2]
      by_cases h3 : x < 65
      · rw [if_pos h3, if_pos h3]
      · rw [if_neg h3, if_neg h3]
theorem impl_WordValid.letter_lt (x : Int) : impl_WordValid.letter x < 5 := by
  unfold impl_WordValid.letter
  generalize Go.bits .or .u8 x 32 = b
  generalize wrap64 (wrap64 b - 97) = c
  by_cases h1 : b < 97
  · rw [if_pos h1]; omega
  · rw [if_neg h1]
    by_cases h2 : c ≥ 5
    · rw [if_pos h2]; omega
    · rw [if_neg h2]
      by_cases h3 : x < 65
      · rw [if_pos h3]; omega
      · rw [if_neg h3]; omega
def impl_WordValid.letters (s : ByteArray) : List Int := (List.range s.size).map (fun i : Nat => impl_WordValid.letter (bt s (i : Int)))
def impl_WordValid.cnt (s : ByteArray) (k : Nat) (c : Int) : Int := (((impl_WordValid.letters s).take k).count c : Nat)
def impl_WordValid.fine (s : ByteArray) (c : Int) : Bool := impl_WordValid.cnt s s.size c == 0 || impl_WordValid.cnt s s.size c == 2
def impl_WordValid.val (s : ByteArray) : Bool :=
  decide (2 ≤ s.size) && (decide (s.size ≤ 10) && ((impl_WordValid.letters s).all (fun n => decide (0 ≤ n)) && (impl_WordValid.fine s 0 && impl_WordValid.fine s 1 && impl_WordValid.fine s 2 && impl_WordValid.fine s 3 && impl_WordValid.fine s 4)))
def impl_WordValid.f (a0 : ByteArray) : Option Bool := some (impl_WordValid.val a0)

theorem impl_WordValid.cnt_succ (s : ByteArray) (k : Nat) (h : k < s.size) (c : Int) :
    impl_WordValid.cnt s (k + 1) c = if impl_WordValid.letter (bt s (k : Int)) = c then impl_WordValid.cnt s k c + 1 else impl_WordValid.cnt s k c := by
  have hl : (impl_WordValid.letters s).length = s.size := by simp [impl_WordValid.letters]
  have e : (impl_WordValid.letters s).take (k + 1) = (impl_WordValid.letters s).take k ++ [impl_WordValid.letter (bt s (k : Int))] := by
    rw [List.take_succ_eq_append_getElem (by omega)]
    simp [impl_WordValid.letters]
  unfold impl_WordValid.cnt
  rw [e, List.count_append]
  by_cases hc : impl_WordValid.letter (bt s (k : Int)) = c <;> simp [hc]
theorem impl_WordValid.cnt_bd (s : ByteArray) (k : Nat) (c : Int) : 0 ≤ impl_WordValid.cnt s k c ∧ impl_WordValid.cnt s k c ≤ k := by
  unfold impl_WordValid.cnt
  have h := List.count_le_length (a := c) (l := (impl_WordValid.letters s).take k)
  have h2 := List.length_take_le k (impl_WordValid.letters s)
  omega
theorem impl_WordValid.arr_set (w : World) (cs : Array Value) (t : TypeId) (m i : Nat) (v : Value) :
    ((w.alloc (.cells cs t)).drewN m).setCell ⟨w.heap.size, i, none⟩ v = (w.alloc (.cells (cs.setIfInBounds i v) t)).drewN m := by
  show ((w.alloc (.cells cs t)).setCell ⟨w.heap.size, i, none⟩ v).drewN m = _
  rw [World.setCell_alloc_at _ _ _ _ _ rfl]
theorem impl_WordValid.wv_fine (s : ByteArray) (h : 2 ≤ s.size) (h' : s.size ≤ 10) (hA : ∀ j : Nat, (j : Int) < s.size → 0 ≤ impl_WordValid.letter (bt s (j : Int))) :
    impl_WordValid.val s = (impl_WordValid.fine s 0 && impl_WordValid.fine s 1 && impl_WordValid.fine s 2 && impl_WordValid.fine s 3 && impl_WordValid.fine s 4) := by
  unfold impl_WordValid.val
  rw [decide_eq_true h, decide_eq_true h']
  have e : (impl_WordValid.letters s).all (fun n => decide (0 ≤ n)) = true := by
    rw [List.all_eq_true]
    intro x hx
    simp only [impl_WordValid.letters, List.mem_map, List.mem_range] at hx
    obtain ⟨j, hj, rfl⟩ := hx
    exact decide_eq_true (hA j (by omega))
  rw [e]
  simp only [Bool.true_and]
theorem impl_WordValid.wv_bad (s : ByteArray) (i : Int) (h0 : 0 ≤ i) (h : i < s.size) (hA : impl_WordValid.letter (bt s i) < 0) : impl_WordValid.val s = false := by
  unfold impl_WordValid.val
  have e : (impl_WordValid.letters s).all (fun n => decide (0 ≤ n)) = false := by
    rw [List.all_eq_false]
    refine ⟨impl_WordValid.letter (bt s i), ?_, by simp; omega⟩
    simp only [impl_WordValid.letters, List.mem_map, List.mem_range]
    exact ⟨i.toNat, by omega, by rw [Int.toNat_of_nonneg h0]⟩
  rw [e]
  simp
theorem impl_WordValid.wv_unfine (s : ByteArray) (c : Int) (hc : c = 0 ∨ c = 1 ∨ c = 2 ∨ c = 3 ∨ c = 4) (hf : impl_WordValid.fine s c = false) : impl_WordValid.val s = false := by
  unfold impl_WordValid.val
  rcases hc with rfl | rfl | rfl | rfl | rfl <;> rw [hf] <;> simp
set_option maxHeartbeats 4000000 in
set_option maxRecDepth 100000 in
theorem impl_WordValid.wv_long (a0 : ByteArray) (w : World) (h : 2 ≤ a0.size) (h' : a0.size ≤ 10) :
    Calls Tryd.prog 31 #[.string a0] w fun e w' => e = .returned (.bool (impl_WordValid.val a0)) ∧ Below w.heap.size w w' := by
    have h1 : decide (a0.size < 2) = false := by simpa using h
    have h2 : decide (10 < a0.size) = false := by simpa using h'
    go_enter Tryd.func31, Tryd.ntmps31
    go_wp2
    go_loopw [19] (fun v19 wr => ∃ (i c0 c1 c2 c3 c4 : Int), v19 = .int .i64 i ∧ Aside0 (0 ≤ i ∧ i ≤ (a0.size : Int)) ∧ Aside0 (∀ j : Nat, (j : Int) < i → 0 ≤ impl_WordValid.letter (bt a0 (j : Int))) ∧ Aside0 (c0 = impl_WordValid.cnt a0 i.toNat 0 ∧ c1 = impl_WordValid.cnt a0 i.toNat 1 ∧ c2 = impl_WordValid.cnt a0 i.toNat 2 ∧ c3 = impl_WordValid.cnt a0 i.toNat 3 ∧ c4 = impl_WordValid.cnt a0 i.toNat 4) ∧ (∃ m, wr = (w.alloc (.cells #[.int .i64 c0, .int .i64 c1, .int .i64 c2, .int .i64 c3, .int .i64 c4] 50)).drewN m)) (fun i _ => a0.size - (intOf i).toNat)
    case atStart => exact ⟨0, 0, 0, 0, 0, 0, rfl, ⟨by omega⟩, ⟨fun j hj => by omega⟩, ⟨⟨rfl, rfl, rfl, rfl, rfl⟩⟩, 0, rfl⟩
    case round =>
      obtain ⟨i, c0, c1, c2, c3, c4, rfl, HI, HA, HC, m, rfl⟩ := hrel
      obtain ⟨hi0, hi1⟩ := HI.out
      by_cases hlt : i < (a0.size : Int)
      · have b0 : decide (i < (a0.size : Int)) = true := decide_eq_true hlt
        have HLT := Aside0.mk hlt
        have hx := bt_at a0 i
        have hlet := impl_WordValid.letter_eq (bt a0 i)
        have HL := Aside0.mk hlet
        have hlt5 := impl_WordValid.letter_lt (bt a0 i)
        have HS : Aside0 (∀ c : Int, impl_WordValid.cnt a0 (i.toNat + 1) c = if impl_WordValid.letter (bt a0 i) = c then impl_WordValid.cnt a0 i.toNat c + 1 else impl_WordValid.cnt a0 i.toNat c) := ⟨fun c => by
          have := impl_WordValid.cnt_succ a0 i.toNat (by omega) c
          rwa [Int.toNat_of_nonneg hi0] at this⟩
        have HD : Aside0 ((0 ≤ c0 ∧ c0 ≤ 10) ∧ (0 ≤ c1 ∧ c1 ≤ 10) ∧ (0 ≤ c2 ∧ c2 ≤ 10) ∧ (0 ≤ c3 ∧ c3 ≤ 10) ∧ (0 ≤ c4 ∧ c4 ≤ 10)) := ⟨by
          obtain ⟨rfl, rfl, rfl, rfl, rfl⟩ := HC.out
          have d0 := impl_WordValid.cnt_bd a0 i.toNat 0
          have d1 := impl_WordValid.cnt_bd a0 i.toNat 1
          have d2 := impl_WordValid.cnt_bd a0 i.toNat 2
          have d3 := impl_WordValid.cnt_bd a0 i.toNat 3
          have d4 := impl_WordValid.cnt_bd a0 i.toNat 4
          refine ⟨?_, ?_, ?_, ?_, ?_⟩ <;> omega⟩
        obtain ⟨⟨d0, f0⟩, ⟨d1, f1⟩, ⟨d2, f2⟩, ⟨d3, f3⟩, ⟨d4, f4⟩⟩ := HD.out
        clear hlet HD
        generalize hn : impl_WordValid.letter (bt a0 i) = n at *
        have HN := Aside0.mk hn
        clear hn
        have p0 := eq_true hi0
        have p1 := eq_true hlt
        clear hlt
        rcases (by omega : n < 0 ∨ n = 0 ∨ n = 1 ∨ n = 2 ∨ n = 3 ∨ n = 4) with hc | hc | hc | hc | hc | hc
        · have HV : Aside0 (impl_WordValid.val a0 = false) := ⟨impl_WordValid.wv_bad a0 i hi0 HLT.out (by rw [HN.out]; exact hc)⟩
          have b1 : decide (n < 0) = true := decide_eq_true hc
          go_wp2_with (go_at_call 55; refine (impl_letterOf.calls _ _ _ HL.out).mono ?_; rintro e w' ⟨rfl, ⟨⟨q, rfl⟩⟩⟩)
          go_ret
          exact ⟨by rw [HV.out]; rfl, by first | exact pw_below_drewN (pw_below_drewN ((Below.refl _ _).alloc (Nat.le_refl _) _) _) _ | exact pw_below_drewN ((Below.refl _ _).alloc (Nat.le_refl _) _) _⟩
        · obtain rfl : n = 0 := by omega
          have HJ : Aside0 (∀ c : Int, impl_WordValid.cnt a0 (i.toNat + 1) c = if (0 : Int) = c then impl_WordValid.cnt a0 i.toNat c + 1 else impl_WordValid.cnt a0 i.toNat c) := ⟨fun c => HS.out c⟩
          clear HS
          go_wp2_with (go_at_call 55; refine (impl_letterOf.calls _ _ _ HL.out).mono ?_; rintro e w' ⟨rfl, ⟨⟨q, rfl⟩⟩⟩)
          go_roundw
          case rel => exact ⟨i + 1, c0 + 1, c1, c2, c3, c4, rfl, ⟨by have := HI.out; have := HLT.out; omega⟩, ⟨by
            intro j hj
            by_cases e : (j : Int) = i
            · rw [e, HN.out]; omega
            · exact HA.out j (by omega)⟩, ⟨by
              have e : (i + 1).toNat = i.toNat + 1 := by have := HI.out; omega
              obtain ⟨e0, e1, e2, e3, e4⟩ := HC.out
              rw [e, HJ.out, HJ.out, HJ.out, HJ.out, HJ.out, ← e0, ← e1, ← e2, ← e3, ← e4]
              exact ⟨rfl, rfl, rfl, rfl, rfl⟩⟩, _, impl_WordValid.arr_set _ _ _ _ _ _⟩
          case measure => simp [intOf]; have := HI.out; have := HLT.out; omega
        · obtain rfl : n = 1 := by omega
          have HJ : Aside0 (∀ c : Int, impl_WordValid.cnt a0 (i.toNat + 1) c = if (1 : Int) = c then impl_WordValid.cnt a0 i.toNat c + 1 else impl_WordValid.cnt a0 i.toNat c) := ⟨fun c => HS.out c⟩
          clear HS
          go_wp2_with (go_at_call 55; refine (impl_letterOf.calls _ _ _ HL.out).mono ?_; rintro e w' ⟨rfl, ⟨⟨q, rfl⟩⟩⟩)
          go_roundw
          case rel => exact ⟨i + 1, c0, c1 + 1, c2, c3, c4, rfl, ⟨by have := HI.out; have := HLT.out; omega⟩, ⟨by
            intro j hj
            by_cases e : (j : Int) = i
            · rw [e, HN.out]; omega
            · exact HA.out j (by omega)⟩, ⟨by
              have e : (i + 1).toNat = i.toNat + 1 := by have := HI.out; omega
              obtain ⟨e0, e1, e2, e3, e4⟩ := HC.out
              rw [e, HJ.out, HJ.out, HJ.out, HJ.out, HJ.out, ← e0, ← e1, ← e2, ← e3, ← e4]
              exact ⟨rfl, rfl, rfl, rfl, rfl⟩⟩, _, impl_WordValid.arr_set _ _ _ _ _ _⟩
          case measure => simp [intOf]; have := HI.out; have := HLT.out; omega
        · obtain rfl : n = 2 := by omega
          have HJ : Aside0 (∀ c : Int, impl_WordValid.cnt a0 (i.toNat + 1) c = if (2 : Int) = c then impl_WordValid.cnt a0 i.toNat c + 1 else impl_WordValid.cnt a0 i.toNat c) := ⟨fun c => HS.out c⟩
          clear HS
          go_wp2_with (go_at_call 55; refine (impl_letterOf.calls _ _ _ HL.out).mono ?_; rintro e w' ⟨rfl, ⟨⟨q, rfl⟩⟩⟩)
          go_roundw
          case rel => exact ⟨i + 1, c0, c1, c2 + 1, c3, c4, rfl, ⟨by have := HI.out; have := HLT.out; omega⟩, ⟨by
            intro j hj
            by_cases e : (j : Int) = i
            · rw [e, HN.out]; omega
            · exact HA.out j (by omega)⟩, ⟨by
              have e : (i + 1).toNat = i.toNat + 1 := by have := HI.out; omega
              obtain ⟨e0, e1, e2, e3, e4⟩ := HC.out
              rw [e, HJ.out, HJ.out, HJ.out, HJ.out, HJ.out, ← e0, ← e1, ← e2, ← e3, ← e4]
              exact ⟨rfl, rfl, rfl, rfl, rfl⟩⟩, _, impl_WordValid.arr_set _ _ _ _ _ _⟩
          case measure => simp [intOf]; have := HI.out; have := HLT.out; omega
        · obtain rfl : n = 3 := by omega
          have HJ : Aside0 (∀ c : Int, impl_WordValid.cnt a0 (i.toNat + 1) c = if (3 : Int) = c then impl_WordValid.cnt a0 i.toNat c + 1 else impl_WordValid.cnt a0 i.toNat c) := ⟨fun c => HS.out c⟩
          clear HS
          go_wp2_with (go_at_call 55; refine (impl_letterOf.calls _ _ _ HL.out).mono ?_; rintro e w' ⟨rfl, ⟨⟨q, rfl⟩⟩⟩)
          go_roundw
          case rel => exact ⟨i + 1, c0, c1, c2, c3 + 1, c4, rfl, ⟨by have := HI.out; have := HLT.out; omega⟩, ⟨by
            intro j hj
            by_cases e : (j : Int) = i
            · rw [e, HN.out]; omega
            · exact HA.out j (by omega)⟩, ⟨by
              have e : (i + 1).toNat = i.toNat + 1 := by have := HI.out; omega
              obtain ⟨e0, e1, e2, e3, e4⟩ := HC.out
              rw [e, HJ.out, HJ.out, HJ.out, HJ.out, HJ.out, ← e0, ← e1, ← e2, ← e3, ← e4]
              exact ⟨rfl, rfl, rfl, rfl, rfl⟩⟩, _, impl_WordValid.arr_set _ _ _ _ _ _⟩
          case measure => simp [intOf]; have := HI.out; have := HLT.out; omega
        · obtain rfl : n = 4 := by omega
          have HJ : Aside0 (∀ c : Int, impl_WordValid.cnt a0 (i.toNat + 1) c = if (4 : Int) = c then impl_WordValid.cnt a0 i.toNat c + 1 else impl_WordValid.cnt a0 i.toNat c) := ⟨fun c => HS.out c⟩
          clear HS
          go_wp2_with (go_at_call 55; refine (impl_letterOf.calls _ _ _ HL.out).mono ?_; rintro e w' ⟨rfl, ⟨⟨q, rfl⟩⟩⟩)
          go_roundw
          case rel => exact ⟨i + 1, c0, c1, c2, c3, c4 + 1, rfl, ⟨by have := HI.out; have := HLT.out; omega⟩, ⟨by
            intro j hj
            by_cases e : (j : Int) = i
            · rw [e, HN.out]; omega
            · exact HA.out j (by omega)⟩, ⟨by
              have e : (i + 1).toNat = i.toNat + 1 := by have := HI.out; omega
              obtain ⟨e0, e1, e2, e3, e4⟩ := HC.out
              rw [e, HJ.out, HJ.out, HJ.out, HJ.out, HJ.out, ← e0, ← e1, ← e2, ← e3, ← e4]
              exact ⟨rfl, rfl, rfl, rfl, rfl⟩⟩, _, impl_WordValid.arr_set _ _ _ _ _ _⟩
          case measure => simp [intOf]; have := HI.out; have := HLT.out; omega
      · obtain rfl : i = (a0.size : Int) := by omega
        have HF : Aside0 (∀ c : Int, impl_WordValid.fine a0 c = (impl_WordValid.cnt a0 a0.size c == 0 || impl_WordValid.cnt a0 a0.size c == 2)) := ⟨fun c => rfl⟩
        have HV := Aside0.mk (impl_WordValid.wv_fine a0 h h' HA.out)
        have HE : Aside0 (c0 = impl_WordValid.cnt a0 a0.size 0 ∧ c1 = impl_WordValid.cnt a0 a0.size 1 ∧ c2 = impl_WordValid.cnt a0 a0.size 2 ∧ c3 = impl_WordValid.cnt a0 a0.size 3 ∧ c4 = impl_WordValid.cnt a0 a0.size 4) := HC
        have i0 : ∀ w, (Instr.index 50 (.agg #[.int .i64 c0, .int .i64 c1, .int .i64 c2, .int .i64 c3, .int .i64 c4]) (.int .i64 0)).run Tryd.prog w = .ok (.int .i64 c0) w := fun _ => by kernel_rfl
        have i1 : ∀ w, (Instr.index 50 (.agg #[.int .i64 c0, .int .i64 c1, .int .i64 c2, .int .i64 c3, .int .i64 c4]) (.int .i64 1)).run Tryd.prog w = .ok (.int .i64 c1) w := fun _ => by kernel_rfl
        have i2 : ∀ w, (Instr.index 50 (.agg #[.int .i64 c0, .int .i64 c1, .int .i64 c2, .int .i64 c3, .int .i64 c4]) (.int .i64 2)).run Tryd.prog w = .ok (.int .i64 c2) w := fun _ => by kernel_rfl
        have i3 : ∀ w, (Instr.index 50 (.agg #[.int .i64 c0, .int .i64 c1, .int .i64 c2, .int .i64 c3, .int .i64 c4]) (.int .i64 3)).run Tryd.prog w = .ok (.int .i64 c3) w := fun _ => by kernel_rfl
        have i4 : ∀ w, (Instr.index 50 (.agg #[.int .i64 c0, .int .i64 c1, .int .i64 c2, .int .i64 c3, .int .i64 c4]) (.int .i64 4)).run Tryd.prog w = .ok (.int .i64 c4) w := fun _ => by kernel_rfl
        clear hlt HC HA
        go_wp2
        go_loopw [35] (fun v35 wr => ∃ (j : Nat), v35 = .int .i64 (j : Int) ∧ j ≤ 5 ∧ Aside0 (∀ c : Nat, c < j → impl_WordValid.fine a0 (c : Int) = true) ∧ (∃ m, wr = (w.alloc (.cells #[.int .i64 c0, .int .i64 c1, .int .i64 c2, .int .i64 c3, .int .i64 c4] 50)).drewN m)) (fun i _ => 5 - (intOf i).toNat)
        case atStart => exact ⟨0, rfl, by omega, ⟨fun c hc => by omega⟩, _, rfl⟩
        case round =>
          obtain ⟨j, rfl, hj, HG, m2, rfl⟩ := hrel
          rcases (by omega : j = 5 ∨ j = 0 ∨ j = 1 ∨ j = 2 ∨ j = 3 ∨ j = 4) with rfl | rfl | rfl | rfl | rfl | rfl
          · go_wp2
            go_ret
            refine ⟨?_, by exact pw_below_drewN ((Below.refl _ _).alloc (Nat.le_refl _) _) _⟩
            rw [HV.out]
            have g0 := HG.out 0 (by omega)
            have g1 := HG.out 1 (by omega)
            have g2 := HG.out 2 (by omega)
            have g3 := HG.out 3 (by omega)
            have g4 := HG.out 4 (by omega)
            rw [show impl_WordValid.fine a0 0 = true from g0, show impl_WordValid.fine a0 1 = true from g1, show impl_WordValid.fine a0 2 = true from g2, show impl_WordValid.fine a0 3 = true from g3, show impl_WordValid.fine a0 4 = true from g4]
            rfl
          · have hF := HF.out 0
            have hE := HE.out.1
            rw [← hE] at hF
            by_cases z : c0 = 0 ∨ c0 = 2
            · have HT : Aside0 (impl_WordValid.fine a0 0 = true) := ⟨by rw [hF]; rcases z with z | z <;> rw [z] <;> rfl⟩
              clear hF hE
              have HZ := Aside0.mk z
              rcases z with z | z
              · have y0 : (c0 == 0) = true := beq_iff_eq.2 z
                have y1 : (c0 != 0) = false := by rw [z]; rfl
                clear z
                go_wp2
                go_roundw
                case rel => exact ⟨1, rfl, by omega, ⟨fun c hc => by
                  by_cases e : c = 0
                  · subst e; exact HT.out
                  · exact HG.out c (by omega)⟩, _, rfl⟩
                case measure => simp [intOf]
              · have y0 : (c0 == 0) = false := by rw [z]; rfl
                have y1 : (c0 != 0) = true := by rw [z]; rfl
                have y2 : (c0 == 2) = true := by rw [z]; rfl
                have y3 : (c0 != 2) = false := by rw [z]; rfl
                clear z
                go_wp2
                go_roundw
                case rel => exact ⟨1, rfl, by omega, ⟨fun c hc => by
                  by_cases e : c = 0
                  · subst e; exact HT.out
                  · exact HG.out c (by omega)⟩, _, rfl⟩
                case measure => simp [intOf]
            · have z1 : (c0 == 0) = false := beq_eq_false_iff_ne.2 (fun h => z (.inl h))
              have z2 : (c0 == 2) = false := beq_eq_false_iff_ne.2 (fun h => z (.inr h))
              have HT : Aside0 (impl_WordValid.val a0 = false) := ⟨impl_WordValid.wv_unfine a0 0 (by omega) (by rw [hF, z1, z2]; rfl)⟩
              have y1 : (c0 != 0) = true := bne_iff_ne.2 (fun h => z (.inl h))
              have y3 : (c0 != 2) = true := bne_iff_ne.2 (fun h => z (.inr h))
              clear hF hE z
              go_wp2
              go_ret
              exact ⟨by rw [HT.out]; rfl, by exact pw_below_drewN ((Below.refl _ _).alloc (Nat.le_refl _) _) _⟩
          · have hF := HF.out 1
            have hE := HE.out.2.1
            rw [← hE] at hF
            by_cases z : c1 = 0 ∨ c1 = 2
            · have HT : Aside0 (impl_WordValid.fine a0 1 = true) := ⟨by rw [hF]; rcases z with z | z <;> rw [z] <;> rfl⟩
              clear hF hE
              have HZ := Aside0.mk z
              rcases z with z | z
              · have y0 : (c1 == 0) = true := beq_iff_eq.2 z
                have y1 : (c1 != 0) = false := by rw [z]; rfl
                clear z
                go_wp2
                go_roundw
                case rel => exact ⟨2, rfl, by omega, ⟨fun c hc => by
                  by_cases e : c = 1
                  · subst e; exact HT.out
                  · exact HG.out c (by omega)⟩, _, rfl⟩
                case measure => simp [intOf]
              · have y0 : (c1 == 0) = false := by rw [z]; rfl
                have y1 : (c1 != 0) = true := by rw [z]; rfl
                have y2 : (c1 == 2) = true := by rw [z]; rfl
                have y3 : (c1 != 2) = false := by rw [z]; rfl
                clear z
                go_wp2
                go_roundw
                case rel => exact ⟨2, rfl, by omega, ⟨fun c hc => by
                  by_cases e : c = 1
                  · subst e; exact HT.out
                  · exact HG.out c (by omega)⟩, _, rfl⟩
                case measure => simp [intOf]
            · have z1 : (c1 == 0) = false := beq_eq_false_iff_ne.2 (fun h => z (.inl h))
              have z2 : (c1 == 2) = false := beq_eq_false_iff_ne.2 (fun h => z (.inr h))
              have HT : Aside0 (impl_WordValid.val a0 = false) := ⟨impl_WordValid.wv_unfine a0 1 (by omega) (by rw [hF, z1, z2]; rfl)⟩
              have y1 : (c1 != 0) = true := bne_iff_ne.2 (fun h => z (.inl h))
              have y3 : (c1 != 2) = true := bne_iff_ne.2 (fun h => z (.inr h))
              clear hF hE z
              go_wp2
              go_ret
              exact ⟨by rw [HT.out]; rfl, by exact pw_below_drewN ((Below.refl _ _).alloc (Nat.le_refl _) _) _⟩
          · have hF := HF.out 2
            have hE := HE.out.2.2.1
            rw [← hE] at hF
            by_cases z : c2 = 0 ∨ c2 = 2
            · have HT : Aside0 (impl_WordValid.fine a0 2 = true) := ⟨by rw [hF]; rcases z with z | z <;> rw [z] <;> rfl⟩
              clear hF hE
              have HZ := Aside0.mk z
              rcases z with z | z
              · have y0 : (c2 == 0) = true := beq_iff_eq.2 z
                have y1 : (c2 != 0) = false := by rw [z]; rfl
                clear z
                go_wp2
                go_roundw
                case rel => exact ⟨3, rfl, by omega, ⟨fun c hc => by
                  by_cases e : c = 2
                  · subst e; exact HT.out
                  · exact HG.out c (by omega)⟩, _, rfl⟩
                case measure => simp [intOf]
              · have y0 : (c2 == 0) = false := by rw [z]; rfl
                have y1 : (c2 != 0) = true := by rw [z]; rfl
                have y2 : (c2 == 2) = true := by rw [z]; rfl
                have y3 : (c2 != 2) = false := by rw [z]; rfl
                clear z
                go_wp2
                go_roundw
                case rel => exact ⟨3, rfl, by omega, ⟨fun c hc => by
                  by_cases e : c = 2
                  · subst e; exact HT.out
                  · exact HG.out c (by omega)⟩, _, rfl⟩
                case measure => simp [intOf]
            · have z1 : (c2 == 0) = false := beq_eq_false_iff_ne.2 (fun h => z (.inl h))
              have z2 : (c2 == 2) = false := beq_eq_false_iff_ne.2 (fun h => z (.inr h))
              have HT : Aside0 (impl_WordValid.val a0 = false) := ⟨impl_WordValid.wv_unfine a0 2 (by omega) (by rw [hF, z1, z2]; rfl)⟩
              have y1 : (c2 != 0) = true := bne_iff_ne.2 (fun h => z (.inl h))
              have y3 : (c2 != 2) = true := bne_iff_ne.2 (fun h => z (.inr h))
              clear hF hE z
              go_wp2
              go_ret
              exact ⟨by rw [HT.out]; rfl, by exact pw_below_drewN ((Below.refl _ _).alloc (Nat.le_refl _) _) _⟩
          · have hF := HF.out 3
            have hE := HE.out.2.2.2.1
            rw [← hE] at hF
            by_cases z : c3 = 0 ∨ c3 = 2
            · have HT : Aside0 (impl_WordValid.fine a0 3 = true) := ⟨by rw [hF]; rcases z with z | z <;> rw [z] <;> rfl⟩
              clear hF hE
              have HZ := Aside0.mk z
              rcases z with z | z
              · have y0 : (c3 == 0) = true := beq_iff_eq.2 z
                have y1 : (c3 != 0) = false := by rw [z]; rfl
                clear z
                go_wp2
                go_roundw
                case rel => exact ⟨4, rfl, by omega, ⟨fun c hc => by
                  by_cases e : c = 3
                  · subst e; exact HT.out
                  · exact HG.out c (by omega)⟩, _, rfl⟩
                case measure => simp [intOf]
              · have y0 : (c3 == 0) = false := by rw [z]; rfl
                have y1 : (c3 != 0) = true := by rw [z]; rfl
                have y2 : (c3 == 2) = true := by rw [z]; rfl
                have y3 : (c3 != 2) = false := by rw [z]; rfl
                clear z
                go_wp2
                go_roundw
                case rel => exact ⟨4, rfl, by omega, ⟨fun c hc => by
                  by_cases e : c = 3
                  · subst e; exact HT.out
                  · exact HG.out c (by omega)⟩, _, rfl⟩
                case measure => simp [intOf]
            · have z1 : (c3 == 0) = false := beq_eq_false_iff_ne.2 (fun h => z (.inl h))
              have z2 : (c3 == 2) = false := beq_eq_false_iff_ne.2 (fun h => z (.inr h))
              have HT : Aside0 (impl_WordValid.val a0 = false) := ⟨impl_WordValid.wv_unfine a0 3 (by omega) (by rw [hF, z1, z2]; rfl)⟩
              have y1 : (c3 != 0) = true := bne_iff_ne.2 (fun h => z (.inl h))
              have y3 : (c3 != 2) = true := bne_iff_ne.2 (fun h => z (.inr h))
              clear hF hE z
              go_wp2
              go_ret
              exact ⟨by rw [HT.out]; rfl, by exact pw_below_drewN ((Below.refl _ _).alloc (Nat.le_refl _) _) _⟩
          · have hF := HF.out 4
            have hE := HE.out.2.2.2.2
            rw [← hE] at hF
            by_cases z : c4 = 0 ∨ c4 = 2
            · have HT : Aside0 (impl_WordValid.fine a0 4 = true) := ⟨by rw [hF]; rcases z with z | z <;> rw [z] <;> rfl⟩
              clear hF hE
              have HZ := Aside0.mk z
              rcases z with z | z
              · have y0 : (c4 == 0) = true := beq_iff_eq.2 z
                have y1 : (c4 != 0) = false := by rw [z]; rfl
                clear z
                go_wp2
                go_roundw
                case rel => exact ⟨5, rfl, by omega, ⟨fun c hc => by
                  by_cases e : c = 4
                  · subst e; exact HT.out
                  · exact HG.out c (by omega)⟩, _, rfl⟩
                case measure => simp [intOf]
              · have y0 : (c4 == 0) = false := by rw [z]; rfl
                have y1 : (c4 != 0) = true := by rw [z]; rfl
                have y2 : (c4 == 2) = true := by rw [z]; rfl
                have y3 : (c4 != 2) = false := by rw [z]; rfl
                clear z
                go_wp2
                go_roundw
                case rel => exact ⟨5, rfl, by omega, ⟨fun c hc => by
                  by_cases e : c = 4
                  · subst e; exact HT.out
                  · exact HG.out c (by omega)⟩, _, rfl⟩
                case measure => simp [intOf]
            · have z1 : (c4 == 0) = false := beq_eq_false_iff_ne.2 (fun h => z (.inl h))
              have z2 : (c4 == 2) = false := beq_eq_false_iff_ne.2 (fun h => z (.inr h))
              have HT : Aside0 (impl_WordValid.val a0 = false) := ⟨impl_WordValid.wv_unfine a0 4 (by omega) (by rw [hF, z1, z2]; rfl)⟩
              have y1 : (c4 != 0) = true := bne_iff_ne.2 (fun h => z (.inl h))
              have y3 : (c4 != 2) = true := bne_iff_ne.2 (fun h => z (.inr h))
              clear hF hE z
              go_wp2
              go_ret
              exact ⟨by rw [HT.out]; rfl, by exact pw_below_drewN ((Below.refl _ _).alloc (Nat.le_refl _) _) _⟩

theorem impl_WordValid.calls (a0 : ByteArray) (r : Bool) (w : World) (h : impl_WordValid.f a0 = some r) :
    Calls Tryd.prog 31 #[.string a0] w fun e w' => e = .returned (.bool r) ∧ Below w.heap.size w w' := by
  obtain rfl := Option.some.inj h
  by_cases h1 : 2 ≤ a0.size
  · by_cases h2 : a0.size ≤ 10
    · exact impl_WordValid.wv_long a0 w h1 h2
    · have HV : Aside0 (impl_WordValid.val a0 = false) := ⟨by unfold impl_WordValid.val; rw [decide_eq_false h2]; simp⟩
      have b1 : decide (a0.size < 2) = false := by simpa using h1
      have b2 : decide (10 < a0.size) = true := by simpa using h2
      clear h
      go_enter Tryd.func31, Tryd.ntmps31
      go_wp2
      go_ret
      exact ⟨by rw [HV.out]; rfl, Below.refl _ _⟩
  · have HV : Aside0 (impl_WordValid.val a0 = false) := ⟨by unfold impl_WordValid.val; rw [decide_eq_false h1]; simp⟩
    have b1 : decide (a0.size < 2) = true := by simpa using h1
    clear h
    go_enter Tryd.func31, Tryd.ntmps31
    go_wp2
    go_ret
    exact ⟨by rw [HV.out]; rfl, Below.refl _ _⟩


/-! ### impl_WordTurn: function 13 -/
def impl_WordTurn.f (a0 : ByteArray) : Option (ByteArray × Bool) := (impl_WordValid.f a0).bind fun t150 => (if t150 = true then (if 1 ≤ (a0.size : Int) then (if 0 ≤ 1 then (if (a0.extract 1 a0.size).size + (a0.extract 0 1).size ≤ 9223372036854775807 then (some (((a0.extract 1 a0.size) ++ (a0.extract 0 1)), true)) else (none)) else (none)) else (none)) else (some ((⟨#[]⟩ : ByteArray), false)))
set_option maxHeartbeats 8000000 in
set_option maxRecDepth 100000 in
theorem impl_WordTurn.calls (a0 : ByteArray) (r1 : ByteArray) (r2 : Bool) (w : World) (h : impl_WordTurn.f a0 = some (r1, r2)) :
    Calls Tryd.prog 13 #[.string a0] w fun e w' => e = .returned (.tuple #[.string r1, .bool r2]) ∧ Below w.heap.size w w' := by
 have HB := Aside0.mk (Below.refl w.heap.size w)
 have H : ((impl_WordValid.f a0).bind fun t150 => (if t150 = true then (if 1 ≤ (a0.size : Int) then (if 0 ≤ 1 then (if (a0.extract 1 a0.size).size + (a0.extract 0 1).size ≤ 9223372036854775807 then (some (((a0.extract 1 a0.size) ++ (a0.extract 0 1)), true)) else (none)) else (none)) else (none)) else (some ((⟨#[]⟩ : ByteArray), false)))) = some (r1, r2) := h
 clear h
 replace H := Option.bind_eq_some_iff.mp H
 obtain ⟨t150, A20, H⟩ := H
 replace H : (if t150 = true then (if 1 ≤ (a0.size : Int) then (if 0 ≤ 1 then (if (a0.extract 1 a0.size).size + (a0.extract 0 1).size ≤ 9223372036854775807 then (some (((a0.extract 1 a0.size) ++ (a0.extract 0 1)), true)) else (none)) else (none)) else (none)) else (some ((⟨#[]⟩ : ByteArray), false))) = some (r1, r2) := H
 have A2 := Aside0.mk A20
 clear A20
 by_cases c3 : t150 = true
 ·subst c3
  have H1 : (if 1 ≤ (a0.size : Int) then (if 0 ≤ 1 then (if (a0.extract 1 a0.size).size + (a0.extract 0 1).size ≤ 9223372036854775807 then (some (((a0.extract 1 a0.size) ++ (a0.extract 0 1)), true)) else (none)) else (none)) else (none)) = some (r1, r2) := by rw [if_pos rfl] at H; exact H
  clear H
  have H := H1
  clear H1
  by_cases c4 : 1 ≤ (a0.size : Int)
  ·rw [if_pos c4] at H
   have c4b0 := eq_true c4
   have c4b1 : decide (1 ≤ (a0.size : Int)) = true := decide_eq_true c4
   clear c4
   obtain ⟨zs5, hzs5⟩ : ∃ j_ : ByteArray, (a0.extract 1 a0.size) = j_ := ⟨_, rfl⟩
   replace H : (if 0 ≤ 1 then (if zs5.size + (a0.extract 0 1).size ≤ 9223372036854775807 then (some ((zs5 ++ (a0.extract 0 1)), true)) else (none)) else (none)) = some (r1, r2) := by first | (rw [hzs5] at H; exact H) | (simp only [hzs5] at H ⊢; exact H) | exact H
   (try rw [hzs5] at A2)
   by_cases c6 : 0 ≤ 1
   ·rw [if_pos c6] at H
    have c6b0 := eq_true c6
    have c6b1 : decide (0 ≤ 1) = true := decide_eq_true c6
    clear c6
    have c7b0 := eq_true (of_decide_eq_true (by first | (with_reducible assumption) | assumption) : 1 ≤ (a0.size : Int))
    obtain ⟨zs8, hzs8⟩ : ∃ j_ : ByteArray, (a0.extract 0 1) = j_ := ⟨_, rfl⟩
    replace H : (if zs5.size + zs8.size ≤ 9223372036854775807 then (some ((zs5 ++ zs8), true)) else (none)) = some (r1, r2) := by first | (rw [hzs8] at H; exact H) | (simp only [hzs8] at H ⊢; exact H) | exact H
    (try rw [hzs8] at A2)
    by_cases c9 : zs5.size + zs8.size ≤ 9223372036854775807
    ·rw [if_pos c9] at H
     have c9b0 := eq_true c9
     have c9b1 : decide (zs5.size + zs8.size ≤ 9223372036854775807) = true := decide_eq_true c9
     try have c9b2 : (9223372036854775807 < zs5.size + zs8.size) = False := eq_false (Nat.not_lt.2 c9)
     obtain ⟨zs10, hzs10⟩ : ∃ j_ : ByteArray, (zs5 ++ zs8) = j_ := ⟨_, rfl⟩
     replace H : (some (zs10, true)) = some (r1, r2) := by first | (rw [hzs10] at H; exact H) | (simp only [hzs10] at H ⊢; exact H) | exact H
     (try rw [hzs10] at A2)
     simp only [Option.some.injEq, Prod.mk.injEq] at H
     obtain ⟨rfl, rfl⟩ := H
     go_enter Tryd.func13, Tryd.ntmps13
     go_wp2_with (first | (go_at_call 31; (with_reducible refine (impl_WordValid.calls a0 true _ A2.out).mono ?_); rintro e w11 ⟨rfl, hb⟩; have n0_ := Aside0.mk (below_step (by repeat (first | (with_reducible first | exact HB.out | apply below_alloc | apply pw_below_drewN | apply below_drew1) | exact HB.out)) hb); clear HB; have HB := n0_; clear n0_; (try clear hb); (try clear hb2); (try clear hk); (try clear hi)))
     repeat (go_quiet (first | (go_at_call 31; (with_reducible refine (impl_WordValid.calls a0 true _ A2.out).mono ?_); rintro e w11 ⟨rfl, hb⟩; have n0_ := Aside0.mk (below_step (by repeat (first | (with_reducible first | exact HB.out | apply below_alloc | apply pw_below_drewN | apply below_drew1) | exact HB.out)) hb); clear HB; have HB := n0_; clear n0_; (try clear hb); (try clear hb2); (try clear hk); (try clear hi))); try go_wp2_with (first | (go_at_call 31; (with_reducible refine (impl_WordValid.calls a0 true _ A2.out).mono ?_); rintro e w11 ⟨rfl, hb⟩; have n0_ := Aside0.mk (below_step (by repeat (first | (with_reducible first | exact HB.out | apply below_alloc | apply pw_below_drewN | apply below_drew1) | exact HB.out)) hb); clear HB; have HB := n0_; clear n0_; (try clear hb); (try clear hb2); (try clear hk); (try clear hi))))
     go_ret2
     exact ⟨by first | rfl | (simp [errW_none, errW_some] <;> rfl) | (simp [*, errW_none, errW_some] <;> rfl), by repeat (first | (with_reducible first | exact HB.out | apply below_alloc | apply pw_below_drewN | apply below_drew1) | exact HB.out)⟩
    ·rw [if_neg c9] at H
     exact absurd H (by simp)
   ·rw [if_neg c6] at H
    exact absurd H (by simp)
  ·rw [if_neg c4] at H
   exact absurd H (by simp)
 ·replace c3 := Bool.eq_false_iff.mpr c3
  subst c3
  have H1 : (some ((⟨#[]⟩ : ByteArray), false)) = some (r1, r2) := by rw [if_neg (show ¬ (false = true) by decide)] at H; exact H
  clear H
  have H := H1
  clear H1
  simp only [Option.some.injEq, Prod.mk.injEq] at H
  obtain ⟨rfl, rfl⟩ := H
  go_enter Tryd.func13, Tryd.ntmps13
  go_wp2_with (first | (go_at_call 31; (with_reducible refine (impl_WordValid.calls a0 false _ A2.out).mono ?_); rintro e w12 ⟨rfl, hb⟩; have n0_ := Aside0.mk (below_step (by repeat (first | (with_reducible first | exact HB.out | apply below_alloc | apply pw_below_drewN | apply below_drew1) | exact HB.out)) hb); clear HB; have HB := n0_; clear n0_; (try clear hb); (try clear hb2); (try clear hk); (try clear hi)))
  repeat (go_quiet (first | (go_at_call 31; (with_reducible refine (impl_WordValid.calls a0 false _ A2.out).mono ?_); rintro e w12 ⟨rfl, hb⟩; have n0_ := Aside0.mk (below_step (by repeat (first | (with_reducible first | exact HB.out | apply below_alloc | apply pw_below_drewN | apply below_drew1) | exact HB.out)) hb); clear HB; have HB := n0_; clear n0_; (try clear hb); (try clear hb2); (try clear hk); (try clear hi))); try go_wp2_with (first | (go_at_call 31; (with_reducible refine (impl_WordValid.calls a0 false _ A2.out).mono ?_); rintro e w12 ⟨rfl, hb⟩; have n0_ := Aside0.mk (below_step (by repeat (first | (with_reducible first | exact HB.out | apply below_alloc | apply pw_below_drewN | apply below_drew1) | exact HB.out)) hb); clear HB; have HB := n0_; clear n0_; (try clear hb); (try clear hb2); (try clear hk); (try clear hi))))
  go_ret2
  exact ⟨by first | rfl | (simp [errW_none, errW_some] <;> rfl) | (simp [*, errW_none, errW_some] <;> rfl), by repeat (first | (with_reducible first | exact HB.out | apply below_alloc | apply pw_below_drewN | apply below_drew1) | exact HB.out)⟩

/-! ### spec_WordValid: function 42 -/
mutual
def spec_WordValid.l0 : Nat → ByteArray → Int → Option (Bool)
  | 0, _, _ => none
  | k + 1, x0, x3 => if x3 < (x0.size : Int) then (spec_WordValid.l1 k x0 x3 0 0) else (some (decide ((x0.size : Int) > 0)))
def spec_WordValid.l1 : Nat → ByteArray → Int → Int → Int → Option (Bool)
  | 0, _, _, _, _ => none
  | k + 1, x0, x3, x4, x5 => if x5 < (x0.size : Int) then (if 0 ≤ x5 then ((spec_l8Letter.f k (bt x0 x5)).bind fun t152 => (if 0 ≤ x3 then (if x3 < (x0.size : Int) then ((spec_l8Letter.f k (bt x0 x3)).bind fun t153 => (if t152 = t153 then (spec_WordValid.l1 k x0 x3 (wrap64 (x4 + 1)) (wrap64 (x5 + 1))) else (spec_WordValid.l1 k x0 x3 x4 (wrap64 (x5 + 1))))) else (none)) else (none))) else (none)) else (if 0 ≤ x3 then (if x3 < (x0.size : Int) then ((spec_l8Letter.f k (bt x0 x3)).bind fun t151 => (if t151 < 0 then (some false) else (if x4 = 2 then (spec_WordValid.l0 k x0 (wrap64 (x3 + 1))) else (some false)))) else (none)) else (none))
end
def spec_WordValid.f (k : Nat) (a0 : ByteArray) : Option (Bool) := spec_WordValid.l0 k a0 0
set_option maxHeartbeats 8000000 in
set_option maxRecDepth 100000 in
theorem spec_WordValid.calls (k : Nat) (a0 : ByteArray) (r : Bool) (w : World) (h : spec_WordValid.f k a0 = some r) :
    Calls Tryd.prog 42 #[.string a0] w fun e w' => e = .returned (.bool r) ∧ Drawn0 w w' := by
 have H : (spec_WordValid.l0 k a0 0) = some r := h
 clear h
 have H' := Aside0.mk H
 clear H
 go_enter Tryd.func42, Tryd.ntmps42
 go_wp2
 repeat (go_quiet (fail); try go_wp2)
 go_loopg [3] k (fun kq v3 w' => ∃ (x3_1 : Int), v3 = .int .i64 x3_1 ∧ Aside0 (spec_WordValid.l0 kq a0 x3_1 = some r) ∧ Aside0 (kq ≤ k) ∧ Drawn0 w w')
 case atStart => exact ⟨(0), (by first | rfl | (simp; done) | (simp [*]; done)), H', ⟨Nat.le_refl _⟩, by repeat (first | exact Drawn0.refl _ | apply Drawn0.step)⟩
 case round =>
  clear H'
  obtain ⟨x3_1, rfl, HA, HK1, ⟨m1, rfl⟩⟩ := hrel
  cases gk with
  | zero => exact absurd HA.out (by simp [spec_WordValid.l0])
  | succ k1 =>
   have H := HA.out
   clear HA
   simp only [spec_WordValid.l0] at H
   by_cases c2 : x3_1 < (a0.size : Int)
   ·rw [if_pos c2] at H
    have c2b0 : decide (x3_1 < (a0.size : Int)) = true := decide_eq_true c2
    clear c2
    have H' := Aside0.mk H
    clear H
    go_wp2
    repeat (go_quiet (fail); try go_wp2)
    go_loopg [4, 5] k1 (fun kq v4 v5 w' => ∃ (x4_2 : Int) (x5_2 : Int), v4 = .int .i64 x4_2 ∧ v5 = .int .i64 x5_2 ∧ Aside0 (spec_WordValid.l1 kq a0 x3_1 x4_2 x5_2 = some r) ∧ Aside0 (kq ≤ k1) ∧ Drawn0 w w')
    case atStart => exact ⟨(0), (0), (by first | rfl | (simp; done) | (simp [*]; done)), (by first | rfl | (simp; done) | (simp [*]; done)), H', ⟨Nat.le_refl _⟩, by repeat (first | exact Drawn0.refl _ | apply Drawn0.step)⟩
    case round =>
     clear H'
     try clear c2
     try clear c2b0
     try clear p2
     obtain ⟨x4_2, x5_2, rfl, rfl, HA, HK2, ⟨m2, rfl⟩⟩ := hrel
     cases gk with
     | zero => exact absurd HA.out (by simp [spec_WordValid.l1])
     | succ k2 =>
      have H := HA.out
      clear HA
      simp only [spec_WordValid.l1] at H
      by_cases c3 : x5_2 < (a0.size : Int)
      ·rw [if_pos c3] at H
       have c3b0 : decide (x5_2 < (a0.size : Int)) = true := decide_eq_true c3
       clear c3
       by_cases c4 : 0 ≤ x5_2
       ·rw [if_pos c4] at H
        have c4b0 : decide (0 ≤ x5_2) = true := decide_eq_true c4
        clear c4
        replace H := Option.bind_eq_some_iff.mp H
        obtain ⟨t152, A60, H⟩ := H
        replace H : (if 0 ≤ x3_1 then (if x3_1 < (a0.size : Int) then ((spec_l8Letter.f k2 (bt a0 x3_1)).bind fun t153 => (if t152 = t153 then (spec_WordValid.l1 k2 a0 x3_1 (wrap64 (x4_2 + 1)) (wrap64 (x5_2 + 1))) else (spec_WordValid.l1 k2 a0 x3_1 x4_2 (wrap64 (x5_2 + 1))))) else (none)) else (none)) = some r := H
        have A6 := Aside0.mk A60
        clear A60
        by_cases c7 : 0 ≤ x3_1
        ·rw [if_pos c7] at H
         have c7b0 : decide (0 ≤ x3_1) = true := decide_eq_true c7
         clear c7
         by_cases c8 : x3_1 < (a0.size : Int)
         ·rw [if_pos c8] at H
          have c8b0 : decide (x3_1 < (a0.size : Int)) = true := decide_eq_true c8
          clear c8
          replace H := Option.bind_eq_some_iff.mp H
          obtain ⟨t153, A100, H⟩ := H
          replace H : (if t152 = t153 then (spec_WordValid.l1 k2 a0 x3_1 (wrap64 (x4_2 + 1)) (wrap64 (x5_2 + 1))) else (spec_WordValid.l1 k2 a0 x3_1 x4_2 (wrap64 (x5_2 + 1)))) = some r := H
          have A10 := Aside0.mk A100
          clear A100
          by_cases c11 : t152 = t153
          ·rw [if_pos c11] at H
           have c11b0 : (t152 == t153) = true := beq_iff_eq.mpr c11
           have c11b1 : (t152 != t153) = false := bne_eq_false_iff_eq.mpr c11
           clear c11
           have H' := Aside0.mk H
           clear H
           have p5 : 0 ≤ (x5_2 : Int) := of_decide_eq_true (by first | (with_reducible assumption) | assumption)
           have q5 : x5_2 < (a0.size : Int) := of_decide_eq_true (by first | (with_reducible assumption) | assumption)
           have hx5 := bt_at a0 x5_2
           replace p5 := eq_true p5
           replace q5 := eq_true q5
           go_wp2_with (first | (go_at_call 52; (with_reducible refine (spec_l8Letter.calls k2 (bt a0 x5_2) t152 _ A6.out).mono ?_); rintro e w' ⟨rfl, ⟨nd, rfl⟩⟩; (try first | exact ⟨rfl, _, World.drewN_drewN _ _ _⟩ | exact ⟨rfl, _, Eq.trans (World.drewN_drewN _ _ _) (congrArg (World.drewN _) (Nat.add_assoc _ _ _))⟩); have p9 : 0 ≤ (x3_1 : Int) := of_decide_eq_true (by first | (with_reducible assumption) | assumption); have q9 : x3_1 < (a0.size : Int) := of_decide_eq_true (by first | (with_reducible assumption) | assumption); have hx9 := bt_at a0 x3_1; replace p9 := eq_true p9; replace q9 := eq_true q9) | (go_at_call 52; (with_reducible refine (spec_l8Letter.calls k2 (bt a0 x3_1) t153 _ A10.out).mono ?_); rintro e w' ⟨rfl, ⟨nd, rfl⟩⟩; (try first | exact ⟨rfl, _, World.drewN_drewN _ _ _⟩ | exact ⟨rfl, _, Eq.trans (World.drewN_drewN _ _ _) (congrArg (World.drewN _) (Nat.add_assoc _ _ _))⟩)))
           repeat (go_quiet (first | (go_at_call 52; (with_reducible refine (spec_l8Letter.calls k2 (bt a0 x5_2) t152 _ A6.out).mono ?_); rintro e w' ⟨rfl, ⟨nd, rfl⟩⟩; (try first | exact ⟨rfl, _, World.drewN_drewN _ _ _⟩ | exact ⟨rfl, _, Eq.trans (World.drewN_drewN _ _ _) (congrArg (World.drewN _) (Nat.add_assoc _ _ _))⟩); have p9 : 0 ≤ (x3_1 : Int) := of_decide_eq_true (by first | (with_reducible assumption) | assumption); have q9 : x3_1 < (a0.size : Int) := of_decide_eq_true (by first | (with_reducible assumption) | assumption); have hx9 := bt_at a0 x3_1; replace p9 := eq_true p9; replace q9 := eq_true q9) | (go_at_call 52; (with_reducible refine (spec_l8Letter.calls k2 (bt a0 x3_1) t153 _ A10.out).mono ?_); rintro e w' ⟨rfl, ⟨nd, rfl⟩⟩; (try first | exact ⟨rfl, _, World.drewN_drewN _ _ _⟩ | exact ⟨rfl, _, Eq.trans (World.drewN_drewN _ _ _) (congrArg (World.drewN _) (Nat.add_assoc _ _ _))⟩))); try go_wp2_with (first | (go_at_call 52; (with_reducible refine (spec_l8Letter.calls k2 (bt a0 x5_2) t152 _ A6.out).mono ?_); rintro e w' ⟨rfl, ⟨nd, rfl⟩⟩; (try first | exact ⟨rfl, _, World.drewN_drewN _ _ _⟩ | exact ⟨rfl, _, Eq.trans (World.drewN_drewN _ _ _) (congrArg (World.drewN _) (Nat.add_assoc _ _ _))⟩); have p9 : 0 ≤ (x3_1 : Int) := of_decide_eq_true (by first | (with_reducible assumption) | assumption); have q9 : x3_1 < (a0.size : Int) := of_decide_eq_true (by first | (with_reducible assumption) | assumption); have hx9 := bt_at a0 x3_1; replace p9 := eq_true p9; replace q9 := eq_true q9) | (go_at_call 52; (with_reducible refine (spec_l8Letter.calls k2 (bt a0 x3_1) t153 _ A10.out).mono ?_); rintro e w' ⟨rfl, ⟨nd, rfl⟩⟩; (try first | exact ⟨rfl, _, World.drewN_drewN _ _ _⟩ | exact ⟨rfl, _, Eq.trans (World.drewN_drewN _ _ _) (congrArg (World.drewN _) (Nat.add_assoc _ _ _))⟩))))
           go_roundg k2
           case measure => have := HK1.out; have := HK2.out; omega
           case rel => exact ⟨(wrap64 (x4_2 + 1)), (wrap64 (x5_2 + 1)), (by first | rfl | (simp; done) | (simp [*]; done)), (by first | rfl | (simp; done) | (simp [*]; done)), H', ⟨by have := HK1.out; have := HK2.out; omega⟩, by repeat (first | exact Drawn0.refl _ | apply Drawn0.step)⟩
          ·rw [if_neg c11] at H
           have c11b0 : (t152 == t153) = false := beq_eq_false_iff_ne.mpr c11
           have c11b1 : (t152 != t153) = true := bne_iff_ne.mpr c11
           have H' := Aside0.mk H
           clear H
           have p5 : 0 ≤ (x5_2 : Int) := of_decide_eq_true (by first | (with_reducible assumption) | assumption)
           have q5 : x5_2 < (a0.size : Int) := of_decide_eq_true (by first | (with_reducible assumption) | assumption)
           have hx5 := bt_at a0 x5_2
           replace p5 := eq_true p5
           replace q5 := eq_true q5
           go_wp2_with (first | (go_at_call 52; (with_reducible refine (spec_l8Letter.calls k2 (bt a0 x5_2) t152 _ A6.out).mono ?_); rintro e w' ⟨rfl, ⟨nd, rfl⟩⟩; (try first | exact ⟨rfl, _, World.drewN_drewN _ _ _⟩ | exact ⟨rfl, _, Eq.trans (World.drewN_drewN _ _ _) (congrArg (World.drewN _) (Nat.add_assoc _ _ _))⟩); have p9 : 0 ≤ (x3_1 : Int) := of_decide_eq_true (by first | (with_reducible assumption) | assumption); have q9 : x3_1 < (a0.size : Int) := of_decide_eq_true (by first | (with_reducible assumption) | assumption); have hx9 := bt_at a0 x3_1; replace p9 := eq_true p9; replace q9 := eq_true q9) | (go_at_call 52; (with_reducible refine (spec_l8Letter.calls k2 (bt a0 x3_1) t153 _ A10.out).mono ?_); rintro e w' ⟨rfl, ⟨nd, rfl⟩⟩; (try first | exact ⟨rfl, _, World.drewN_drewN _ _ _⟩ | exact ⟨rfl, _, Eq.trans (World.drewN_drewN _ _ _) (congrArg (World.drewN _) (Nat.add_assoc _ _ _))⟩)))
           repeat (go_quiet (first | (go_at_call 52; (with_reducible refine (spec_l8Letter.calls k2 (bt a0 x5_2) t152 _ A6.out).mono ?_); rintro e w' ⟨rfl, ⟨nd, rfl⟩⟩; (try first | exact ⟨rfl, _, World.drewN_drewN _ _ _⟩ | exact ⟨rfl, _, Eq.trans (World.drewN_drewN _ _ _) (congrArg (World.drewN _) (Nat.add_assoc _ _ _))⟩); have p9 : 0 ≤ (x3_1 : Int) := of_decide_eq_true (by first | (with_reducible assumption) | assumption); have q9 : x3_1 < (a0.size : Int) := of_decide_eq_true (by first | (with_reducible assumption) | assumption); have hx9 := bt_at a0 x3_1; replace p9 := eq_true p9; replace q9 := eq_true q9) | (go_at_call 52; (with_reducible refine (spec_l8Letter.calls k2 (bt a0 x3_1) t153 _ A10.out).mono ?_); rintro e w' ⟨rfl, ⟨nd, rfl⟩⟩; (try first | exact ⟨rfl, _, World.drewN_drewN _ _ _⟩ | exact ⟨rfl, _, Eq.trans (World.drewN_drewN _ _ _) (congrArg (World.drewN _) (Nat.add_assoc _ _ _))⟩))); try go_wp2_with (first | (go_at_call 52; (with_reducible refine (spec_l8Letter.calls k2 (bt a0 x5_2) t152 _ A6.out).mono ?_); rintro e w' ⟨rfl, ⟨nd, rfl⟩⟩; (try first | exact ⟨rfl, _, World.drewN_drewN _ _ _⟩ | exact ⟨rfl, _, Eq.trans (World.drewN_drewN _ _ _) (congrArg (World.drewN _) (Nat.add_assoc _ _ _))⟩); have p9 : 0 ≤ (x3_1 : Int) := of_decide_eq_true (by first | (with_reducible assumption) | assumption); have q9 : x3_1 < (a0.size : Int) := of_decide_eq_true (by first | (with_reducible assumption) | assumption); have hx9 := bt_at a0 x3_1; replace p9 := eq_true p9; replace q9 := eq_true q9) | (go_at_call 52; (with_reducible refine (spec_l8Letter.calls k2 (bt a0 x3_1) t153 _ A10.out).mono ?_); rintro e w' ⟨rfl, ⟨nd, rfl⟩⟩; (try first | exact ⟨rfl, _, World.drewN_drewN _ _ _⟩ | exact ⟨rfl, _, Eq.trans (World.drewN_drewN _ _ _) (congrArg (World.drewN _) (Nat.add_assoc _ _ _))⟩))))
           go_roundg k2
           case measure => have := HK1.out; have := HK2.out; omega
           case rel => exact ⟨(x4_2), (wrap64 (x5_2 + 1)), (by first | rfl | (simp; done) | (simp [*]; done)), (by first | rfl | (simp; done) | (simp [*]; done)), H', ⟨by have := HK1.out; have := HK2.out; omega⟩, by repeat (first | exact Drawn0.refl _ | apply Drawn0.step)⟩
         ·rw [if_neg c8] at H
          exact absurd H (by simp)
        ·rw [if_neg c7] at H
         exact absurd H (by simp)
       ·rw [if_neg c4] at H
        exact absurd H (by simp)
      ·rw [if_neg c3] at H
       have c3b0 : decide (x5_2 < (a0.size : Int)) = false := decide_eq_false c3
       clear c3
       by_cases c12 : 0 ≤ x3_1
       ·rw [if_pos c12] at H
        have c12b0 : decide (0 ≤ x3_1) = true := decide_eq_true c12
        clear c12
        by_cases c13 : x3_1 < (a0.size : Int)
        ·rw [if_pos c13] at H
         have c13b0 : decide (x3_1 < (a0.size : Int)) = true := decide_eq_true c13
         clear c13
         replace H := Option.bind_eq_some_iff.mp H
         obtain ⟨t151, A150, H⟩ := H
         replace H : (if t151 < 0 then (some false) else (if x4_2 = 2 then (spec_WordValid.l0 k2 a0 (wrap64 (x3_1 + 1))) else (some false))) = some r := H
         have A15 := Aside0.mk A150
         clear A150
         by_cases c16 : t151 < 0
         ·rw [if_pos c16] at H
          have c16b0 : decide (t151 < 0) = true := decide_eq_true c16
          clear c16
          obtain rfl := Option.some.inj H
          have p14 : 0 ≤ (x3_1 : Int) := of_decide_eq_true (by first | (with_reducible assumption) | assumption)
          have q14 : x3_1 < (a0.size : Int) := of_decide_eq_true (by first | (with_reducible assumption) | assumption)
          have hx14 := bt_at a0 x3_1
          replace p14 := eq_true p14
          replace q14 := eq_true q14
          go_wp2_with (first | (go_at_call 52; (with_reducible refine (spec_l8Letter.calls k2 (bt a0 x3_1) t151 _ A15.out).mono ?_); rintro e w' ⟨rfl, ⟨nd, rfl⟩⟩; (try first | exact ⟨rfl, _, World.drewN_drewN _ _ _⟩ | exact ⟨rfl, _, Eq.trans (World.drewN_drewN _ _ _) (congrArg (World.drewN _) (Nat.add_assoc _ _ _))⟩)))
          repeat (go_quiet (first | (go_at_call 52; (with_reducible refine (spec_l8Letter.calls k2 (bt a0 x3_1) t151 _ A15.out).mono ?_); rintro e w' ⟨rfl, ⟨nd, rfl⟩⟩; (try first | exact ⟨rfl, _, World.drewN_drewN _ _ _⟩ | exact ⟨rfl, _, Eq.trans (World.drewN_drewN _ _ _) (congrArg (World.drewN _) (Nat.add_assoc _ _ _))⟩))); try go_wp2_with (first | (go_at_call 52; (with_reducible refine (spec_l8Letter.calls k2 (bt a0 x3_1) t151 _ A15.out).mono ?_); rintro e w' ⟨rfl, ⟨nd, rfl⟩⟩; (try first | exact ⟨rfl, _, World.drewN_drewN _ _ _⟩ | exact ⟨rfl, _, Eq.trans (World.drewN_drewN _ _ _) (congrArg (World.drewN _) (Nat.add_assoc _ _ _))⟩))))
          go_ret
          exact ⟨by first | rfl | (simp; done) | (simp [*]; done), by repeat (first | exact Drawn0.refl _ | apply Drawn0.step)⟩
         ·rw [if_neg c16] at H
          have c16b0 : decide (t151 < 0) = false := decide_eq_false c16
          clear c16
          by_cases c17 : x4_2 = 2
          ·rw [if_pos c17] at H
           have c17b0 : (x4_2 == 2) = true := beq_iff_eq.mpr c17
           have c17b1 : (x4_2 != 2) = false := bne_eq_false_iff_eq.mpr c17
           clear c17
           have H' := Aside0.mk H
           clear H
           have p14 : 0 ≤ (x3_1 : Int) := of_decide_eq_true (by first | (with_reducible assumption) | assumption)
           have q14 : x3_1 < (a0.size : Int) := of_decide_eq_true (by first | (with_reducible assumption) | assumption)
           have hx14 := bt_at a0 x3_1
           replace p14 := eq_true p14
           replace q14 := eq_true q14
           go_wp2_with (first | (go_at_call 52; (with_reducible refine (spec_l8Letter.calls k2 (bt a0 x3_1) t151 _ A15.out).mono ?_); rintro e w' ⟨rfl, ⟨nd, rfl⟩⟩; (try first | exact ⟨rfl, _, World.drewN_drewN _ _ _⟩ | exact ⟨rfl, _, Eq.trans (World.drewN_drewN _ _ _) (congrArg (World.drewN _) (Nat.add_assoc _ _ _))⟩)))
           repeat (go_quiet (first | (go_at_call 52; (with_reducible refine (spec_l8Letter.calls k2 (bt a0 x3_1) t151 _ A15.out).mono ?_); rintro e w' ⟨rfl, ⟨nd, rfl⟩⟩; (try first | exact ⟨rfl, _, World.drewN_drewN _ _ _⟩ | exact ⟨rfl, _, Eq.trans (World.drewN_drewN _ _ _) (congrArg (World.drewN _) (Nat.add_assoc _ _ _))⟩))); try go_wp2_with (first | (go_at_call 52; (with_reducible refine (spec_l8Letter.calls k2 (bt a0 x3_1) t151 _ A15.out).mono ?_); rintro e w' ⟨rfl, ⟨nd, rfl⟩⟩; (try first | exact ⟨rfl, _, World.drewN_drewN _ _ _⟩ | exact ⟨rfl, _, Eq.trans (World.drewN_drewN _ _ _) (congrArg (World.drewN _) (Nat.add_assoc _ _ _))⟩))))
           go_roundg k2
           case measure => have := HK1.out; have := HK2.out; omega
           case rel => exact ⟨(wrap64 (x3_1 + 1)), (by first | rfl | (simp; done) | (simp [*]; done)), H', ⟨by have := HK1.out; have := HK2.out; omega⟩, by repeat (first | exact Drawn0.refl _ | apply Drawn0.step)⟩
          ·rw [if_neg c17] at H
           have c17b0 : (x4_2 == 2) = false := beq_eq_false_iff_ne.mpr c17
           have c17b1 : (x4_2 != 2) = true := bne_iff_ne.mpr c17
           obtain rfl := Option.some.inj H
           have p14 : 0 ≤ (x3_1 : Int) := of_decide_eq_true (by first | (with_reducible assumption) | assumption)
           have q14 : x3_1 < (a0.size : Int) := of_decide_eq_true (by first | (with_reducible assumption) | assumption)
           have hx14 := bt_at a0 x3_1
           replace p14 := eq_true p14
           replace q14 := eq_true q14
           go_wp2_with (first | (go_at_call 52; (with_reducible refine (spec_l8Letter.calls k2 (bt a0 x3_1) t151 _ A15.out).mono ?_); rintro e w' ⟨rfl, ⟨nd, rfl⟩⟩; (try first | exact ⟨rfl, _, World.drewN_drewN _ _ _⟩ | exact ⟨rfl, _, Eq.trans (World.drewN_drewN _ _ _) (congrArg (World.drewN _) (Nat.add_assoc _ _ _))⟩)))
           repeat (go_quiet (first | (go_at_call 52; (with_reducible refine (spec_l8Letter.calls k2 (bt a0 x3_1) t151 _ A15.out).mono ?_); rintro e w' ⟨rfl, ⟨nd, rfl⟩⟩; (try first | exact ⟨rfl, _, World.drewN_drewN _ _ _⟩ | exact ⟨rfl, _, Eq.trans (World.drewN_drewN _ _ _) (congrArg (World.drewN _) (Nat.add_assoc _ _ _))⟩))); try go_wp2_with (first | (go_at_call 52; (with_reducible refine (spec_l8Letter.calls k2 (bt a0 x3_1) t151 _ A15.out).mono ?_); rintro e w' ⟨rfl, ⟨nd, rfl⟩⟩; (try first | exact ⟨rfl, _, World.drewN_drewN _ _ _⟩ | exact ⟨rfl, _, Eq.trans (World.drewN_drewN _ _ _) (congrArg (World.drewN _) (Nat.add_assoc _ _ _))⟩))))
           go_ret
           exact ⟨by first | rfl | (simp; done) | (simp [*]; done), by repeat (first | exact Drawn0.refl _ | apply Drawn0.step)⟩
        ·rw [if_neg c13] at H
         exact absurd H (by simp)
       ·rw [if_neg c12] at H
        exact absurd H (by simp)
   ·rw [if_neg c2] at H
    have c2b0 : decide (x3_1 < (a0.size : Int)) = false := decide_eq_false c2
    clear c2
    obtain rfl := Option.some.inj H
    go_wp2
    repeat (go_quiet (fail); try go_wp2)
    go_ret
    exact ⟨by first | rfl | (simp; done) | (simp [*]; done), by repeat (first | exact Drawn0.refl _ | apply Drawn0.step)⟩

/-! ### spec_WordTurn: function 14 -/
def spec_WordTurn.f (k : Nat) (a0 : ByteArray) : Option (ByteArray × Bool) := (spec_WordValid.f k a0).bind fun t154 => (if t154 = true then (if 1 ≤ (a0.size : Int) then (if 0 ≤ 1 then (if (a0.extract 1 a0.size).size + (a0.extract 0 1).size ≤ 9223372036854775807 then (some (((a0.extract 1 a0.size) ++ (a0.extract 0 1)), true)) else (none)) else (none)) else (none)) else (some ((⟨#[]⟩ : ByteArray), false)))
set_option maxHeartbeats 8000000 in
set_option maxRecDepth 100000 in
theorem spec_WordTurn.calls (k : Nat) (a0 : ByteArray) (r1 : ByteArray) (r2 : Bool) (w : World) (h : spec_WordTurn.f k a0 = some (r1, r2)) :
    Calls Tryd.prog 14 #[.string a0] w fun e w' => e = .returned (.tuple #[.string r1, .bool r2]) ∧ Drawn0 w w' := by
 have H : ((spec_WordValid.f k a0).bind fun t154 => (if t154 = true then (if 1 ≤ (a0.size : Int) then (if 0 ≤ 1 then (if (a0.extract 1 a0.size).size + (a0.extract 0 1).size ≤ 9223372036854775807 then (some (((a0.extract 1 a0.size) ++ (a0.extract 0 1)), true)) else (none)) else (none)) else (none)) else (some ((⟨#[]⟩ : ByteArray), false)))) = some (r1, r2) := h
 clear h
 replace H := Option.bind_eq_some_iff.mp H
 obtain ⟨t154, A20, H⟩ := H
 replace H : (if t154 = true then (if 1 ≤ (a0.size : Int) then (if 0 ≤ 1 then (if (a0.extract 1 a0.size).size + (a0.extract 0 1).size ≤ 9223372036854775807 then (some (((a0.extract 1 a0.size) ++ (a0.extract 0 1)), true)) else (none)) else (none)) else (none)) else (some ((⟨#[]⟩ : ByteArray), false))) = some (r1, r2) := H
 have A2 := Aside0.mk A20
 clear A20
 by_cases c3 : t154 = true
 ·subst c3
  have H1 : (if 1 ≤ (a0.size : Int) then (if 0 ≤ 1 then (if (a0.extract 1 a0.size).size + (a0.extract 0 1).size ≤ 9223372036854775807 then (some (((a0.extract 1 a0.size) ++ (a0.extract 0 1)), true)) else (none)) else (none)) else (none)) = some (r1, r2) := by rw [if_pos rfl] at H; exact H
  clear H
  have H := H1
  clear H1
  by_cases c4 : 1 ≤ (a0.size : Int)
  ·rw [if_pos c4] at H
   have c4b0 := eq_true c4
   have c4b1 : decide (1 ≤ (a0.size : Int)) = true := decide_eq_true c4
   clear c4
   obtain ⟨zs5, hzs5⟩ : ∃ j_ : ByteArray, (a0.extract 1 a0.size) = j_ := ⟨_, rfl⟩
   replace H : (if 0 ≤ 1 then (if zs5.size + (a0.extract 0 1).size ≤ 9223372036854775807 then (some ((zs5 ++ (a0.extract 0 1)), true)) else (none)) else (none)) = some (r1, r2) := by first | (rw [hzs5] at H; exact H) | (simp only [hzs5] at H ⊢; exact H) | exact H
   (try rw [hzs5] at A2)
   by_cases c6 : 0 ≤ 1
   ·rw [if_pos c6] at H
    have c6b0 := eq_true c6
    have c6b1 : decide (0 ≤ 1) = true := decide_eq_true c6
    clear c6
    have c7b0 := eq_true (of_decide_eq_true (by first | (with_reducible assumption) | assumption) : 1 ≤ (a0.size : Int))
    obtain ⟨zs8, hzs8⟩ : ∃ j_ : ByteArray, (a0.extract 0 1) = j_ := ⟨_, rfl⟩
    replace H : (if zs5.size + zs8.size ≤ 9223372036854775807 then (some ((zs5 ++ zs8), true)) else (none)) = some (r1, r2) := by first | (rw [hzs8] at H; exact H) | (simp only [hzs8] at H ⊢; exact H) | exact H
    (try rw [hzs8] at A2)
    by_cases c9 : zs5.size + zs8.size ≤ 9223372036854775807
    ·rw [if_pos c9] at H
     have c9b0 := eq_true c9
     have c9b1 : decide (zs5.size + zs8.size ≤ 9223372036854775807) = true := decide_eq_true c9
     try have c9b2 : (9223372036854775807 < zs5.size + zs8.size) = False := eq_false (Nat.not_lt.2 c9)
     obtain ⟨zs10, hzs10⟩ : ∃ j_ : ByteArray, (zs5 ++ zs8) = j_ := ⟨_, rfl⟩
     replace H : (some (zs10, true)) = some (r1, r2) := by first | (rw [hzs10] at H; exact H) | (simp only [hzs10] at H ⊢; exact H) | exact H
     (try rw [hzs10] at A2)
     simp only [Option.some.injEq, Prod.mk.injEq] at H
     obtain ⟨rfl, rfl⟩ := H
     go_enter Tryd.func14, Tryd.ntmps14
     go_wp2_with (first | (go_at_call 42; (with_reducible refine (spec_WordValid.calls k a0 true _ A2.out).mono ?_); rintro e w' ⟨rfl, ⟨nd, rfl⟩⟩; (try first | exact ⟨rfl, _, World.drewN_drewN _ _ _⟩ | exact ⟨rfl, _, Eq.trans (World.drewN_drewN _ _ _) (congrArg (World.drewN _) (Nat.add_assoc _ _ _))⟩)))
     repeat (go_quiet (first | (go_at_call 42; (with_reducible refine (spec_WordValid.calls k a0 true _ A2.out).mono ?_); rintro e w' ⟨rfl, ⟨nd, rfl⟩⟩; (try first | exact ⟨rfl, _, World.drewN_drewN _ _ _⟩ | exact ⟨rfl, _, Eq.trans (World.drewN_drewN _ _ _) (congrArg (World.drewN _) (Nat.add_assoc _ _ _))⟩))); try go_wp2_with (first | (go_at_call 42; (with_reducible refine (spec_WordValid.calls k a0 true _ A2.out).mono ?_); rintro e w' ⟨rfl, ⟨nd, rfl⟩⟩; (try first | exact ⟨rfl, _, World.drewN_drewN _ _ _⟩ | exact ⟨rfl, _, Eq.trans (World.drewN_drewN _ _ _) (congrArg (World.drewN _) (Nat.add_assoc _ _ _))⟩))))
     go_ret2
     exact ⟨by first | rfl | (simp; done) | (simp [*]; done), by repeat (first | exact Drawn0.refl _ | apply Drawn0.step)⟩
    ·rw [if_neg c9] at H
     exact absurd H (by simp)
   ·rw [if_neg c6] at H
    exact absurd H (by simp)
  ·rw [if_neg c4] at H
   exact absurd H (by simp)
 ·replace c3 := Bool.eq_false_iff.mpr c3
  subst c3
  have H1 : (some ((⟨#[]⟩ : ByteArray), false)) = some (r1, r2) := by rw [if_neg (show ¬ (false = true) by decide)] at H; exact H
  clear H
  have H := H1
  clear H1
  simp only [Option.some.injEq, Prod.mk.injEq] at H
  obtain ⟨rfl, rfl⟩ := H
  go_enter Tryd.func14, Tryd.ntmps14
  go_wp2_with (first | (go_at_call 42; (with_reducible refine (spec_WordValid.calls k a0 false _ A2.out).mono ?_); rintro e w' ⟨rfl, ⟨nd, rfl⟩⟩; (try first | exact ⟨rfl, _, World.drewN_drewN _ _ _⟩ | exact ⟨rfl, _, Eq.trans (World.drewN_drewN _ _ _) (congrArg (World.drewN _) (Nat.add_assoc _ _ _))⟩)))
  repeat (go_quiet (first | (go_at_call 42; (with_reducible refine (spec_WordValid.calls k a0 false _ A2.out).mono ?_); rintro e w' ⟨rfl, ⟨nd, rfl⟩⟩; (try first | exact ⟨rfl, _, World.drewN_drewN _ _ _⟩ | exact ⟨rfl, _, Eq.trans (World.drewN_drewN _ _ _) (congrArg (World.drewN _) (Nat.add_assoc _ _ _))⟩))); try go_wp2_with (first | (go_at_call 42; (with_reducible refine (spec_WordValid.calls k a0 false _ A2.out).mono ?_); rintro e w' ⟨rfl, ⟨nd, rfl⟩⟩; (try first | exact ⟨rfl, _, World.drewN_drewN _ _ _⟩ | exact ⟨rfl, _, Eq.trans (World.drewN_drewN _ _ _) (congrArg (World.drewN _) (Nat.add_assoc _ _ _))⟩))))
  go_ret2
  exact ⟨by first | rfl | (simp; done) | (simp [*]; done), by repeat (first | exact Drawn0.refl _ | apply Drawn0.step)⟩

end Go.Proofs.YtpfnchjbbagmdaaDoor.PFnWordTurn
