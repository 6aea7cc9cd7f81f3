-- Made by a program of this session (wip/tools) out of the loaded program; not trusted: Lean checks it.
import Derived.Test.YtpfnchjbbagmdaaPFnWordGluingx0
import Derived.Test.YtpfnchjbbagmdaaPFnWordGluingx1
import Derived.Test.YtpfnchjbbagmdaaPFnWordGluingx2
namespace Go.Proofs.Ytpfnchjbbagmdaa.PFnWordGluing
open Go.RowKit Go.Proofs.YtpfnchjbbagmdaaW.PrintWords Go.Proofs.YtpfnchjbbagmdaaW.PrintLast Go.Proofs.YtpfnchjbbagmdaaW.PrintMore
attribute [local go_sem] max2_int min2_int max_two min_two max_three min_three max_four min_four   -- for this text's walks alone
set_option linter.unusedVariables false
set_option linter.unusedSimpArgs false

/-! ### impl_WordValid: function 30 -/
def impl_WordValid.letter (x : Int) : Int := if (Go.bits .or .u8 x 32) < 97 then (-1) else if wrap64 ((wrap64 (Go.bits .or .u8 x 32)) - 97) ≥ 5 then (-1) else if x < 65 then (-1) else wrap64 ((wrap64 (Go.bits .or .u8 x 32)) - 97)
theorem impl_WordValid.letter_eq (x : Int) : impl_letterOf.f x = some (impl_WordValid.letter x) := by
  unfold impl_WordValid.letter impl_letterOf.f
  generalize Go.bits .or .u8 x 32 = b
  generalize wrap64 (wrap64 b - 97) = c
  by_cases h1 : b < 97
  · rw [if_pos h1, if_pos h1]
  · rw [if_neg h1, if_neg h1]
    by_cases h2 : c ≥ 5
    · rw [if_pos h2, if_pos h2]
    · rw [if_neg h2, if_neg h2]
      by_cases h3 : x < 65
      · rw [if_pos h3, if_pos h3]
      · rw [if_neg h3, if_neg h3]
theorem impl_WordValid.letter_lt (x : Int) : impl_WordValid.letter x < 5 := by
  unfold impl_WordValid.letter
  generalize Go.bits .or .u8 x 32 = b
  generalize wrap64 (wrap64 b - 97) = c
  by_cases h1 : b < 97
  · rw [if_pos h1]; omega
  · rw [if_neg h1]
    by_cases h2 : c ≥ 5
    · rw [if_pos h2]; omega
    · rw [if_neg h2]
      by_cases h3 : x < 65
      · rw [if_pos h3]; omega
      · rw [if_neg h3]; omega
def impl_WordValid.letters (s : ByteArray) : List Int := (List.range s.size).map (fun i : Nat => impl_WordValid.letter (bt s (i : Int)))
def impl_WordValid.cnt (s : ByteArray) (k : Nat) (c : Int) : Int := (((impl_WordValid.letters s).take k).count c : Nat)
def impl_WordValid.fine (s : ByteArray) (c : Int) : Bool := impl_WordValid.cnt s s.size c == 0 || impl_WordValid.cnt s s.size c == 2
def impl_WordValid.val (s : ByteArray) : Bool :=
  decide (2 ≤ s.size) && (decide (s.size ≤ 10) && ((impl_WordValid.letters s).all (fun n => decide (0 ≤ n)) && (impl_WordValid.fine s 0 && impl_WordValid.fine s 1 && impl_WordValid.fine s 2 && impl_WordValid.fine s 3 && impl_WordValid.fine s 4)))
def impl_WordValid.f (a0 : ByteArray) : Option Bool := some (impl_WordValid.val a0)

theorem impl_WordValid.cnt_succ (s : ByteArray) (k : Nat) (h : k < s.size) (c : Int) :
    impl_WordValid.cnt s (k + 1) c = if impl_WordValid.letter (bt s (k : Int)) = c then impl_WordValid.cnt s k c + 1 else impl_WordValid.cnt s k c := by
  have hl : (impl_WordValid.letters s).length = s.size := by simp [impl_WordValid.letters]
  have e : (impl_WordValid.letters s).take (k + 1) = (impl_WordValid.letters s).take k ++ [impl_WordValid.letter (bt s (k : Int))] := by
    rw [List.take_succ_eq_append_getElem (by omega)]
    simp [impl_WordValid.letters]
  unfold impl_WordValid.cnt
  rw [e, List.count_append]
  by_cases hc : impl_WordValid.letter (bt s (k : Int)) = c <;> simp [hc]
theorem impl_WordValid.cnt_bd (s : ByteArray) (k : Nat) (c : Int) : 0 ≤ impl_WordValid.cnt s k c ∧ impl_WordValid.cnt s k c ≤ k := by
  unfold impl_WordValid.cnt
  have h := List.count_le_length (a := c) (l := (impl_WordValid.letters s).take k)
  have h2 := List.length_take_le k (impl_WordValid.letters s)
  omega
theorem impl_WordValid.arr_set (w : World) (cs : Array Value) (t : TypeId) (m i : Nat) (v : Value) :
    ((w.alloc (.cells cs t)).drewN m).setCell ⟨w.heap.size, i, none⟩ v = (w.alloc (.cells (cs.setIfInBounds i v) t)).drewN m := by
  show ((w.alloc (.cells cs t)).setCell ⟨w.heap.size, i, none⟩ v).drewN m = _
  rw [World.setCell_alloc_at _ _ _ _ _ rfl]
theorem impl_WordValid.wv_fine (s : ByteArray) (h : 2 ≤ s.size) (h' : s.size ≤ 10) (hA : ∀ j : Nat, (j : Int) < s.size → 0 ≤ impl_WordValid.letter (bt s (j : Int))) :
    impl_WordValid.val s = (impl_WordValid.fine s 0 && impl_WordValid.fine s 1 && impl_WordValid.fine s 2 && impl_WordValid.fine s 3 && impl_WordValid.fine s 4) := by
  unfold impl_WordValid.val
  rw [decide_eq_true h, decide_eq_true h']
  have e : (impl_WordValid.letters s).all (fun n => decide (0 ≤ n)) = true := by
    rw [List.all_eq_true]
    intro x hx
    simp only [impl_WordValid.letters, List.mem_map, List.mem_range] at hx
    obtain ⟨j, hj, rfl⟩ := hx
    exact decide_eq_true (hA j (by omega))
  rw [e]
  simp only [Bool.true_and]
theorem impl_WordValid.wv_bad (s : ByteArray) (i : Int) (h0 : 0 ≤ i) (h : i < s.size) (hA : impl_WordValid.letter (bt s i) < 0) : impl_WordValid.val s = false := by
  unfold impl_WordValid.val
  have e : (impl_WordValid.letters s).all (fun n => decide (0 ≤ n)) = false := by
    rw [List.all_eq_false]
    refine ⟨impl_WordValid.letter (bt s i), ?_, by simp; omega⟩
    simp only [impl_WordValid.letters, List.mem_map, List.mem_range]
    exact ⟨i.toNat, by omega, by rw [Int.toNat_of_nonneg h0]⟩
  rw [e]
  simp
theorem impl_WordValid.wv_unfine (s : ByteArray) (c : Int) (hc : c = 0 ∨ c = 1 ∨ c = 2 ∨ c = 3 ∨ c = 4) (hf : impl_WordValid.fine s c = false) : impl_WordValid.val s = false := by
  unfold impl_WordValid.val
  rcases hc with rfl | rfl | rfl | rfl | rfl <;> rw [hf] <;> simp
set_option maxHeartbeats 4000000 in
set_option maxRecDepth 100000 in
theorem impl_WordValid.wv_long (a0 : ByteArray) (w : World) (h : 2 ≤ a0.size) (h' : a0.size ≤ 10) :
    Calls Try.prog 30 #[.string a0] w fun e w' => e = .returned (.bool (impl_WordValid.val a0)) ∧ Below w.heap.size w w' := by
    have h1 : decide (a0.size < 2) = false := by simpa using h
    have h2 : decide (10 < a0.size) = false := by simpa using h'
    go_enter Try.func30, Try.ntmps30
    go_wp2
    go_loopw [19] (fun v19 wr => ∃ (i c0 c1 c2 c3 c4 : Int), v19 = .int .i64 i ∧ Aside0 (0 ≤ i ∧ i ≤ (a0.size : Int)) ∧ Aside0 (∀ j : Nat, (j : Int) < i → 0 ≤ impl_WordValid.letter (bt a0 (j : Int))) ∧ Aside0 (c0 = impl_WordValid.cnt a0 i.toNat 0 ∧ c1 = impl_WordValid.cnt a0 i.toNat 1 ∧ c2 = impl_WordValid.cnt a0 i.toNat 2 ∧ c3 = impl_WordValid.cnt a0 i.toNat 3 ∧ c4 = impl_WordValid.cnt a0 i.toNat 4) ∧ (∃ m, wr = (w.alloc (.cells #[.int .i64 c0, .int .i64 c1, .int .i64 c2, .int .i64 c3, .int .i64 c4] 61)).drewN m)) (fun i _ => a0.size - (intOf i).toNat)
    case atStart => exact ⟨0, 0, 0, 0, 0, 0, rfl, ⟨by omega⟩, ⟨fun j hj => by omega⟩, ⟨⟨rfl, rfl, rfl, rfl, rfl⟩⟩, 0, rfl⟩
    case round =>
      obtain ⟨i, c0, c1, c2, c3, c4, rfl, HI, HA, HC, m, rfl⟩ := hrel
      obtain ⟨hi0, hi1⟩ := HI.out
      by_cases hlt : i < (a0.size : Int)
      · have b0 : decide (i < (a0.size : Int)) = true := decide_eq_true hlt
        have HLT := Aside0.mk hlt
        have hx := bt_at a0 i
        have hlet := impl_WordValid.letter_eq (bt a0 i)
        have HL := Aside0.mk hlet
        have hlt5 := impl_WordValid.letter_lt (bt a0 i)
        have HS : Aside0 (∀ c : Int, impl_WordValid.cnt a0 (i.toNat + 1) c = if impl_WordValid.letter (bt a0 i) = c then impl_WordValid.cnt a0 i.toNat c + 1 else impl_WordValid.cnt a0 i.toNat c) := ⟨fun c => by
          have := impl_WordValid.cnt_succ a0 i.toNat (by omega) c
          rwa [Int.toNat_of_nonneg hi0] at this⟩
        have HD : Aside0 ((0 ≤ c0 ∧ c0 ≤ 10) ∧ (0 ≤ c1 ∧ c1 ≤ 10) ∧ (0 ≤ c2 ∧ c2 ≤ 10) ∧ (0 ≤ c3 ∧ c3 ≤ 10) ∧ (0 ≤ c4 ∧ c4 ≤ 10)) := ⟨by
          obtain ⟨rfl, rfl, rfl, rfl, rfl⟩ := HC.out
          have d0 := impl_WordValid.cnt_bd a0 i.toNat 0
          have d1 := impl_WordValid.cnt_bd a0 i.toNat 1
          have d2 := impl_WordValid.cnt_bd a0 i.toNat 2
          have d3 := impl_WordValid.cnt_bd a0 i.toNat 3
          have d4 := impl_WordValid.cnt_bd a0 i.toNat 4
          refine ⟨?_, ?_, ?_, ?_, ?_⟩ <;> omega⟩
        obtain ⟨⟨d0, f0⟩, ⟨d1, f1⟩, ⟨d2, f2⟩, ⟨d3, f3⟩, ⟨d4, f4⟩⟩ := HD.out
        clear hlet HD
        generalize hn : impl_WordValid.letter (bt a0 i) = n at *
        have HN := Aside0.mk hn
        clear hn
        have p0 := eq_true hi0
        have p1 := eq_true hlt
        clear hlt
        rcases (by omega : n < 0 ∨ n = 0 ∨ n = 1 ∨ n = 2 ∨ n = 3 ∨ n = 4) with hc | hc | hc | hc | hc | hc
        · have HV : Aside0 (impl_WordValid.val a0 = false) := ⟨impl_WordValid.wv_bad a0 i hi0 HLT.out (by rw [HN.out]; exact hc)⟩
          have b1 : decide (n < 0) = true := decide_eq_true hc
          go_wp2_with (go_at_call 47; refine (impl_letterOf.calls _ _ _ HL.out).mono ?_; rintro e w' ⟨rfl, ⟨⟨q, rfl⟩⟩⟩)
          go_ret
          exact ⟨by rw [HV.out]; rfl, by first | exact pw_below_drewN (pw_below_drewN ((Below.refl _ _).alloc (Nat.le_refl _) _) _) _ | exact pw_below_drewN ((Below.refl _ _).alloc (Nat.le_refl _) _) _⟩
        · obtain rfl : n = 0 := by omega
          have HJ : Aside0 (∀ c : Int, impl_WordValid.cnt a0 (i.toNat + 1) c = if (0 : Int) = c then impl_WordValid.cnt a0 i.toNat c + 1 else impl_WordValid.cnt a0 i.toNat c) := ⟨fun c => HS.out c⟩
          clear HS
          go_wp2_with (go_at_call 47; refine (impl_letterOf.calls _ _ _ HL.out).mono ?_; rintro e w' ⟨rfl, ⟨⟨q, rfl⟩⟩⟩)
          go_roundw
          case rel => exact ⟨i + 1, c0 + 1, c1, c2, c3, c4, rfl, ⟨by have := HI.out; have := HLT.out; omega⟩, ⟨by
            intro j hj
            by_cases e : (j : Int) = i
            · rw [e, HN.out]; omega
            · exact HA.out j (by omega)⟩, ⟨by
              have e : (i + 1).toNat = i.toNat + 1 := by have := HI.out; omega
              obtain ⟨e0, e1, e2, e3, e4⟩ := HC.out
              rw [e, HJ.out, HJ.out, HJ.out, HJ.out, HJ.out, ← e0, ← e1, ← e2, ← e3, ← e4]
              exact ⟨rfl, rfl, rfl, rfl, rfl⟩⟩, _, impl_WordValid.arr_set _ _ _ _ _ _⟩
          case measure => simp [intOf]; have := HI.out; have := HLT.out; omega
        · obtain rfl : n = 1 := by omega
          have HJ : Aside0 (∀ c : Int, impl_WordValid.cnt a0 (i.toNat + 1) c = if (1 : Int) = c then impl_WordValid.cnt a0 i.toNat c + 1 else impl_WordValid.cnt a0 i.toNat c) := ⟨fun c => HS.out c⟩
          clear HS
          go_wp2_with (go_at_call 47; refine (impl_letterOf.calls _ _ _ HL.out).mono ?_; rintro e w' ⟨rfl, ⟨⟨q, rfl⟩⟩⟩)
          go_roundw
          case rel => exact ⟨i + 1, c0, c1 + 1, c2, c3, c4, rfl, ⟨by have := HI.out; have := HLT.out; omega⟩, ⟨by
            intro j hj
            by_cases e : (j : Int) = i
            · rw [e, HN.out]; omega
            · exact HA.out j (by omega)⟩, ⟨by
              have e : (i + 1).toNat = i.toNat + 1 := by have := HI.out; omega
              obtain ⟨e0, e1, e2, e3, e4⟩ := HC.out
              rw [e, HJ.out, HJ.out, HJ.out, HJ.out, HJ.out, ← e0, ← e1, ← e2, ← e3, ← e4]
              exact ⟨rfl, rfl, rfl, rfl, rfl⟩⟩, _, impl_WordValid.arr_set _ _ _ _ _ _⟩
          case measure => simp [intOf]; have := HI.out; have := HLT.out; omega
        · obtain rfl : n = 2 := by omega
          have HJ : Aside0 (∀ c : Int, impl_WordValid.cnt a0 (i.toNat + 1) c = if (2 : Int) = c then impl_WordValid.cnt a0 i.toNat c + 1 else impl_WordValid.cnt a0 i.toNat c) := ⟨fun c => HS.out c⟩
          clear HS
          go_wp2_with (go_at_call 47; refine (impl_letterOf.calls _ _ _ HL.out).mono ?_; rintro e w' ⟨rfl, ⟨⟨q, rfl⟩⟩⟩)
          go_roundw
          case rel => exact ⟨i + 1, c0, c1, c2 + 1, c3, c4, rfl, ⟨by have := HI.out; have := HLT.out; omega⟩, ⟨by
            intro j hj
            by_cases e : (j : Int) = i
            · rw [e, HN.out]; omega
            · exact HA.out j (by omega)⟩, ⟨by
              have e : (i + 1).toNat = i.toNat + 1 := by have := HI.out; omega
              obtain ⟨e0, e1, e2, e3, e4⟩ := HC.out
              rw [e, HJ.out, HJ.out, HJ.out, HJ.out, HJ.out, ← e0, ← e1, ← e2, ← e3, ← e4]
              exact ⟨rfl, rfl, rfl, rfl, rfl⟩⟩, _, impl_WordValid.arr_set _ _ _ _ _ _⟩
          case measure => simp [intOf]; have := HI.out; have := HLT.out; omega
        · obtain rfl : n = 3 := by omega
          have HJ : Aside0 (∀ c : Int, impl_WordValid.cnt a0 (i.toNat + 1) c = if (3 : Int) = c then impl_WordValid.cnt a0 i.toNat c + 1 else impl_WordValid.cnt a0 i.toNat c) := ⟨fun c => HS.out c⟩
          clear HS
          go_wp2_with (go_at_call 47; refine (impl_letterOf.calls _ _ _ HL.out).mono ?_; rintro e w' ⟨rfl, ⟨⟨q, rfl⟩⟩⟩)
          go_roundw
          case rel => exact ⟨i + 1, c0, c1, c2, c3 + 1, c4, rfl, ⟨by have := HI.out; have := HLT.out; omega⟩, ⟨by
            intro j hj
            by_cases e : (j : Int) = i
            · rw [e, HN.out]; omega
            · exact HA.out j (by omega)⟩, ⟨by
              have e : (i + 1).toNat = i.toNat + 1 := by have := HI.out; omega
              obtain ⟨e0, e1, e2, e3, e4⟩ := HC.out
              rw [e, HJ.out, HJ.out, HJ.out, HJ.out, HJ.out, ← e0, ← e1, ← e2, ← e3, ← e4]
              exact ⟨rfl, rfl, rfl, rfl, rfl⟩⟩, _, impl_WordValid.arr_set _ _ _ _ _ _⟩
          case measure => simp [intOf]; have := HI.out; have := HLT.out; omega
        · obtain rfl : n = 4 := by omega
          have HJ : Aside0 (∀ c : Int, impl_WordValid.cnt a0 (i.toNat + 1) c = if (4 : Int) = c then impl_WordValid.cnt a0 i.toNat c + 1 else impl_WordValid.cnt a0 i.toNat c) := ⟨fun c => HS.out c⟩
          clear HS
          go_wp2_with (go_at_call 47; refine (impl_letterOf.calls _ _ _ HL.out).mono ?_; rintro e w' ⟨rfl, ⟨⟨q, rfl⟩⟩⟩)
          go_roundw
          case rel => exact ⟨i + 1, c0, c1, c2, c3, c4 + 1, rfl, ⟨by have := HI.out; have := HLT.out; omega⟩, ⟨by
            intro j hj
            by_cases e : (j : Int) = i
            · rw [e, HN.out]; omega
            · exact HA.out j (by omega)⟩, ⟨by
              have e : (i + 1).toNat = i.toNat + 1 := by have := HI.out; omega
              obtain ⟨e0, e1, e2, e3, e4⟩ := HC.out
              rw [e, HJ.out, HJ.out, HJ.out, HJ.out, HJ.out, ← e0, ← e1, ← e2, ← e3, ← e4]
              exact ⟨rfl, rfl, rfl, rfl, rfl⟩⟩, _, impl_WordValid.arr_set _ _ _ _ _ _⟩
          case measure => simp [intOf]; have := HI.out; have := HLT.out; omega
      · obtain rfl : i = (a0.size : Int) := by omega
        have HF : Aside0 (∀ c : Int, impl_WordValid.fine a0 c = (impl_WordValid.cnt a0 a0.size c == 0 || impl_WordValid.cnt a0 a0.size c == 2)) := ⟨fun c => rfl⟩
        have HV := Aside0.mk (impl_WordValid.wv_fine a0 h h' HA.out)
        have HE : Aside0 (c0 = impl_WordValid.cnt a0 a0.size 0 ∧ c1 = impl_WordValid.cnt a0 a0.size 1 ∧ c2 = impl_WordValid.cnt a0 a0.size 2 ∧ c3 = impl_WordValid.cnt a0 a0.size 3 ∧ c4 = impl_WordValid.cnt a0 a0.size 4) := HC
        have i0 : ∀ w, (Instr.index 61 (.agg #[.int .i64 c0, .int .i64 c1, .int .i64 c2, .int .i64 c3, .int .i64 c4]) (.int .i64 0)).run Try.prog w = .ok (.int .i64 c0) w := fun _ => by kernel_rfl
        have i1 : ∀ w, (Instr.index 61 (.agg #[.int .i64 c0, .int .i64 c1, .int .i64 c2, .int .i64 c3, .int .i64 c4]) (.int .i64 1)).run Try.prog w = .ok (.int .i64 c1) w := fun _ => by kernel_rfl
        have i2 : ∀ w, (Instr.index 61 (.agg #[.int .i64 c0, .int .i64 c1, .int .i64 c2, .int .i64 c3, .int .i64 c4]) (.int .i64 2)).run Try.prog w = .ok (.int .i64 c2) w := fun _ => by kernel_rfl
        have i3 : ∀ w, (Instr.index 61 (.agg #[.int .i64 c0, .int .i64 c1, .int .i64 c2, .int .i64 c3, .int .i64 c4]) (.int .i64 3)).run Try.prog w = .ok (.int .i64 c3) w := fun _ => by kernel_rfl
        have i4 : ∀ w, (Instr.index 61 (.agg #[.int .i64 c0, .int .i64 c1, .int .i64 c2, .int .i64 c3, .int .i64 c4]) (.int .i64 4)).run Try.prog w = .ok (.int .i64 c4) w := fun _ => by kernel_rfl
        clear hlt HC HA
        go_wp2
        go_loopw [35] (fun v35 wr => ∃ (j : Nat), v35 = .int .i64 (j : Int) ∧ j ≤ 5 ∧ Aside0 (∀ c : Nat, c < j → impl_WordValid.fine a0 (c : Int) = true) ∧ (∃ m, wr = (w.alloc (.cells #[.int .i64 c0, .int .i64 c1, .int .i64 c2, .int .i64 c3, .int .i64 c4] 61)).drewN m)) (fun i _ => 5 - (intOf i).toNat)
        case atStart => exact ⟨0, rfl, by omega, ⟨fun c hc => by omega⟩, _, rfl⟩
        case round =>
          obtain ⟨j, rfl, hj, HG, m2, rfl⟩ := hrel
          rcases (by omega : j = 5 ∨ j = 0 ∨ j = 1 ∨ j = 2 ∨ j = 3 ∨ j = 4) with rfl | rfl | rfl | rfl | rfl | rfl
          · go_wp2
            go_ret
            refine ⟨?_, by exact pw_below_drewN ((Below.refl _ _).alloc (Nat.le_refl _) _) _⟩
            rw [HV.out]
            have g0 := HG.out 0 (by omega)
            have g1 := HG.out 1 (by omega)
            have g2 := HG.out 2 (by omega)
            have g3 := HG.out 3 (by omega)
            have g4 := HG.out 4 (by omega)
            rw [show impl_WordValid.fine a0 0 = true from g0, show impl_WordValid.fine a0 1 = true from g1, show impl_WordValid.fine a0 2 = true from g2, show impl_WordValid.fine a0 3 = true from g3, show impl_WordValid.fine a0 4 = true from g4]
            rfl
          · have hF := HF.out 0
            have hE := HE.out.1
            rw [← hE] at hF
            by_cases z : c0 = 0 ∨ c0 = 2
            · have HT : Aside0 (impl_WordValid.fine a0 0 = true) := ⟨by rw [hF]; rcases z with z | z <;> rw [z] <;> rfl⟩
              clear hF hE
              have HZ := Aside0.mk z
              rcases z with z | z
              · have y0 : (c0 == 0) = true := beq_iff_eq.2 z
                have y1 : (c0 != 0) = false := by rw [z]; rfl
                clear z
                go_wp2
                go_roundw
                case rel => exact ⟨1, rfl, by omega, ⟨fun c hc => by
                  by_cases e : c = 0
                  · subst e; exact HT.out
                  · exact HG.out c (by omega)⟩, _, rfl⟩
                case measure => simp [intOf]
              · have y0 : (c0 == 0) = false := by rw [z]; rfl
                have y1 : (c0 != 0) = true := by rw [z]; rfl
                have y2 : (c0 == 2) = true := by rw [z]; rfl
                have y3 : (c0 != 2) = false := by rw [z]; rfl
                clear z
                go_wp2
                go_roundw
                case rel => exact ⟨1, rfl, by omega, ⟨fun c hc => by
                  by_cases e : c = 0
                  · subst e; exact HT.out
                  · exact HG.out c (by omega)⟩, _, rfl⟩
                case measure => simp [intOf]
            · have z1 : (c0 == 0) = false := beq_eq_false_iff_ne.2 (fun h => z (.inl h))
              have z2 : (c0 == 2) = false := beq_eq_false_iff_ne.2 (fun h => z (.inr h))
              have HT : Aside0 (impl_WordValid.val a0 = false) := ⟨impl_WordValid.wv_unfine a0 0 (by omega) (by rw [hF, z1, z2]; rfl)⟩
              have y1 : (c0 != 0) = true := bne_iff_ne.2 (fun h => z (.inl h))
              have y3 : (c0 != 2) = true := bne_iff_ne.2 (fun h => z (.inr h))
              clear hF hE z
              go_wp2
              go_ret
              exact ⟨by rw [HT.out]; rfl, by exact pw_below_drewN ((Below.refl _ _).alloc (Nat.le_refl _) _) _⟩
          · have hF := HF.out 1
            have hE := HE.out.2.1
            rw [← hE] at hF
            by_cases z : c1 = 0 ∨ c1 = 2
            · have HT : Aside0 (impl_WordValid.fine a0 1 = true) := ⟨by rw [hF]; rcases z with z | z <;> rw [z] <;> rfl⟩
              clear hF hE
              have HZ := Aside0.mk z
              rcases z with z | z
              · have y0 : (c1 == 0) = true := beq_iff_eq.2 z
                have y1 : (c1 != 0) = false := by rw [z]; rfl
                clear z
                go_wp2
                go_roundw
                case rel => exact ⟨2, rfl, by omega, ⟨fun c hc => by
                  by_cases e : c = 1
                  · subst e; exact HT.out
                  · exact HG.out c (by omega)⟩, _, rfl⟩
                case measure => simp [intOf]
              · have y0 : (c1 == 0) = false := by rw [z]; rfl
                have y1 : (c1 != 0) = true := by rw [z]; rfl
                have y2 : (c1 == 2) = true := by rw [z]; rfl
                have y3 : (c1 != 2) = false := by rw [z]; rfl
                clear z
                go_wp2
                go_roundw
                case rel => exact ⟨2, rfl, by omega, ⟨fun c hc => by
                  by_cases e : c = 1
                  · subst e; exact HT.out
                  · exact HG.out c (by omega)⟩, _, rfl⟩
                case measure => simp [intOf]
            · have z1 : (c1 == 0) = false := beq_eq_false_iff_ne.2 (fun h => z (.inl h))
              have z2 : (c1 == 2) = false := beq_eq_false_iff_ne.2 (fun h => z (.inr h))
              have HT : Aside0 (impl_WordValid.val a0 = false) := ⟨impl_WordValid.wv_unfine a0 1 (by omega) (by rw [hF, z1, z2]; rfl)⟩
              have y1 : (c1 != 0) = true := bne_iff_ne.2 (fun h => z (.inl h))
              have y3 : (c1 != 2) = true := bne_iff_ne.2 (fun h => z (.inr h))
              clear hF hE z
              go_wp2
              go_ret
              exact ⟨by rw [HT.out]; rfl, by exact pw_below_drewN ((Below.refl _ _).alloc (Nat.le_refl _) _) _⟩
          · have hF := HF.out 2
            have hE := HE.out.2.2.1
            rw [← hE] at hF
            by_cases z : c2 = 0 ∨ c2 = 2
            · have HT : Aside0 (impl_WordValid.fine a0 2 = true) := ⟨by rw [hF]; rcases z with z | z <;> rw [z] <;> rfl⟩
              clear hF hE
              have HZ := Aside0.mk z
              rcases z with z | z
              · have y0 : (c2 == 0) = true := beq_iff_eq.2 z
                have y1 : (c2 != 0) = false := by rw [z]; rfl
                clear z
                go_wp2
                go_roundw
                case rel => exact ⟨3, rfl, by omega, ⟨fun c hc => by
                  by_cases e : c = 2
                  · subst e; exact HT.out
                  · exact HG.out c (by omega)⟩, _, rfl⟩
                case measure => simp [intOf]
              · have y0 : (c2 == 0) = false := by rw [z]; rfl
                have y1 : (c2 != 0) = true := by rw [z]; rfl
                have y2 : (c2 == 2) = true := by rw [z]; rfl
                have y3 : (c2 != 2) = false := by rw [z]; rfl
                clear z
                go_wp2
                go_roundw
                case rel => exact ⟨3, rfl, by omega, ⟨fun c hc => by
                  by_cases e : c = 2
                  · subst e; exact HT.out
                  · exact HG.out c (by omega)⟩, _, rfl⟩
                case measure => simp [intOf]
            · have z1 : (c2 == 0) = false := beq_eq_false_iff_ne.2 (fun h => z (.inl h))
              have z2 : (c2 == 2) = false := beq_eq_false_iff_ne.2 (fun h => z (.inr h))
              have HT : Aside0 (impl_WordValid.val a0 = false) := ⟨impl_WordValid.wv_unfine a0 2 (by omega) (by rw [hF, z1, z2]; rfl)⟩
              have y1 : (c2 != 0) = true := bne_iff_ne.2 (fun h => z (.inl h))
              have y3 : (c2 != 2) = true := bne_iff_ne.2 (fun h => z (.inr h))
              clear hF hE z
              go_wp2
              go_ret
              exact ⟨by rw [HT.out]; rfl, by exact pw_below_drewN ((Below.refl _ _).alloc (Nat.le_refl _) _) _⟩
          · have hF := HF.out 3
            have hE := HE.out.2.2.2.1
            rw [← hE] at hF
            by_cases z : c3 = 0 ∨ c3 = 2
            · have HT : Aside0 (impl_WordValid.fine a0 3 = true) := ⟨by rw [hF]; rcases z with z | z <;> rw [z] <;> rfl⟩
              clear hF hE
              have HZ := Aside0.mk z
              rcases z with z | z
              · have y0 : (c3 == 0) = true := beq_iff_eq.2 z
                have y1 : (c3 != 0) = false := by rw [z]; rfl
                clear z
                go_wp2
                go_roundw
                case rel => exact ⟨4, rfl, by omega, ⟨fun c hc => by
                  by_cases e : c = 3
                  · subst e; exact HT.out
                  · exact HG.out c (by omega)⟩, _, rfl⟩
                case measure => simp [intOf]
              · have y0 : (c3 == 0) = false := by rw [z]; rfl
                have y1 : (c3 != 0) = true := by rw [z]; rfl
                have y2 : (c3 == 2) = true := by rw [z]; rfl
                have y3 : (c3 != 2) = false := by rw [z]; rfl
                clear z
                go_wp2
                go_roundw
                case rel => exact ⟨4, rfl, by omega, ⟨fun c hc => by
                  by_cases e : c = 3
                  · subst e; exact HT.out
                  · exact HG.out c (by omega)⟩, _, rfl⟩
                case measure => simp [intOf]
            · have z1 : (c3 == 0) = false := beq_eq_false_iff_ne.2 (fun h => z (.inl h))
              have z2 : (c3 == 2) = false := beq_eq_false_iff_ne.2 (fun h => z (.inr h))
              have HT : Aside0 (impl_WordValid.val a0 = false) := ⟨impl_WordValid.wv_unfine a0 3 (by omega) (by rw [hF, z1, z2]; rfl)⟩
              have y1 : (c3 != 0) = true := bne_iff_ne.2 (fun h => z (.inl h))
              have y3 : (c3 != 2) = true := bne_iff_ne.2 (fun h => z (.inr h))
              clear hF hE z
              go_wp2
              go_ret
              exact ⟨by rw [HT.out]; rfl, by exact pw_below_drewN ((Below.refl _ _).alloc (Nat.le_refl _) _) _⟩
          · have hF := HF.out 4
            have hE := HE.out.2.2.2.2
            rw [← hE] at hF
            by_cases z : c4 = 0 ∨ c4 = 2
            · have HT : Aside0 (impl_WordValid.fine a0 4 = true) := ⟨by rw [hF]; rcases z with z | z <;> rw [z] <;> rfl⟩
              clear hF hE
              have HZ := Aside0.mk z
              rcases z with z | z
              · have y0 : (c4 == 0) = true := beq_iff_eq.2 z
                have y1 : (c4 != 0) = false := by rw [z]; rfl
                clear z
                go_wp2
                go_roundw
                case rel => exact ⟨5, rfl, by omega, ⟨fun c hc => by
                  by_cases e : c = 4
                  · subst e; exact HT.out
                  · exact HG.out c (by omega)⟩, _, rfl⟩
                case measure => simp [intOf]
              · have y0 : (c4 == 0) = false := by rw [z]; rfl
                have y1 : (c4 != 0) = true := by rw [z]; rfl
                have y2 : (c4 == 2) = true := by rw [z]; rfl
                have y3 : (c4 != 2) = false := by rw [z]; rfl
                clear z
                go_wp2
                go_roundw
                case rel => exact ⟨5, rfl, by omega, ⟨fun c hc => by
                  by_cases e : c = 4
                  · subst e; exact HT.out
                  · exact HG.out c (by omega)⟩, _, rfl⟩
                case measure => simp [intOf]
            · have z1 : (c4 == 0) = false := beq_eq_false_iff_ne.2 (fun h => z (.inl h))
              have z2 : (c4 == 2) = false := beq_eq_false_iff_ne.2 (fun h => z (.inr h))
              have HT : Aside0 (impl_WordValid.val a0 = false) := ⟨impl_WordValid.wv_unfine a0 4 (by omega) (by rw [hF, z1, z2]; rfl)⟩
              have y1 : (c4 != 0) = true := bne_iff_ne.2 (fun h => z (.inl h))
              have y3 : (c4 != 2) = true := bne_iff_ne.2 (fun h => z (.inr h))
              clear hF hE z
              go_wp2
              go_ret
              exact ⟨by rw [HT.out]; rfl, by exact pw_below_drewN ((Below.refl _ _).alloc (Nat.le_refl _) _) _⟩

theorem impl_WordValid.calls (a0 : ByteArray) (r : Bool) (w : World) (h : impl_WordValid.f a0 = some r) :
    Calls Try.prog 30 #[.string a0] w fun e w' => e = .returned (.bool r) ∧ Below w.heap.size w w' := by
  obtain rfl := Option.some.inj h
  by_cases h1 : 2 ≤ a0.size
  · by_cases h2 : a0.size ≤ 10
    · exact impl_WordValid.wv_long a0 w h1 h2
    · have HV : Aside0 (impl_WordValid.val a0 = false) := ⟨by unfold impl_WordValid.val; rw [decide_eq_false h2]; simp⟩
      have b1 : decide (a0.size < 2) = false := by simpa using h1
      have b2 : decide (10 < a0.size) = true := by simpa using h2
      clear h
      go_enter Try.func30, Try.ntmps30
      go_wp2
      go_ret
      exact ⟨by rw [HV.out]; rfl, Below.refl _ _⟩
  · have HV : Aside0 (impl_WordValid.val a0 = false) := ⟨by unfold impl_WordValid.val; rw [decide_eq_false h1]; simp⟩
    have b1 : decide (a0.size < 2) = true := by simpa using h1
    clear h
    go_enter Try.func30, Try.ntmps30
    go_wp2
    go_ret
    exact ⟨by rw [HV.out]; rfl, Below.refl _ _⟩


/-! ### impl_WordSided: function 19 -/
def impl_WordSided.l0 : Nat → ByteArray → List Int → Int → Int → Option (Bool)
  | 0, _, _, _, _ => none
  | k + 1, x0, x9, x10, x11 => if x11 < x10 then (if 0 ≤ x11 then (if x11 < (x9.length : Int) then (if x11 < (x0.size : Int) then (if 0 ≤ (rd x9 x11) then (if (rd x9 x11) < (x0.size : Int) then (if (bt x0 x11) = (bt x0 (rd x9 x11)) then (some false) else (impl_WordSided.l0 k x0 x9 x10 (wrap64 (x11 + 1)))) else (none)) else (none)) else (none)) else (none)) else (none)) else (some true)
def impl_WordSided.f (k : Nat) (a0 : ByteArray) : Option (Bool) := (impl_WordValid.f a0).bind fun t154 => (if t154 = true then ((impl_partnersOf.f k a0).bind fun t155 => (impl_WordSided.l0 k a0 t155 (t155.length : Int) 0)) else (some false))
set_option maxHeartbeats 8000000 in
set_option maxRecDepth 100000 in
theorem impl_WordSided.calls (k : Nat) (a0 : ByteArray) (r : Bool) (w : World) (h : impl_WordSided.f k a0 = some r) :
    Calls Try.prog 19 #[.string a0] w fun e w' => e = .returned (.bool r) ∧ Below w.heap.size w w' := by
 have HB := Aside0.mk (Below.refl w.heap.size w)
 have H : ((impl_WordValid.f a0).bind fun t154 => (if t154 = true then ((impl_partnersOf.f k a0).bind fun t155 => (impl_WordSided.l0 k a0 t155 (t155.length : Int) 0)) else (some false))) = some r := h
 clear h
 replace H := Option.bind_eq_some_iff.mp H
 obtain ⟨t154, A20, H⟩ := H
 replace H : (if t154 = true then ((impl_partnersOf.f k a0).bind fun t155 => (impl_WordSided.l0 k a0 t155 (t155.length : Int) 0)) else (some false)) = some r := H
 have A2 := Aside0.mk A20
 clear A20
 by_cases c3 : t154 = true
 ·subst c3
  have H1 : ((impl_partnersOf.f k a0).bind fun t155 => (impl_WordSided.l0 k a0 t155 (t155.length : Int) 0)) = some r := by rw [if_pos rfl] at H; exact H
  clear H
  have H := H1
  clear H1
  replace H := Option.bind_eq_some_iff.mp H
  obtain ⟨t155, A40, H⟩ := H
  replace H : (impl_WordSided.l0 k a0 t155 (t155.length : Int) 0) = some r := H
  have A4 := Aside0.mk A40
  clear A40
  have H' := Aside0.mk H
  clear H
  go_enter Try.func19, Try.ntmps19
  go_wp2_with (first | (go_at_call 30; (with_reducible refine (impl_WordValid.calls a0 true _ A2.out).mono ?_); rintro e w5 ⟨rfl, hb⟩; have n0_ := Aside0.mk (below_step (by repeat (first | (with_reducible first | exact HB.out | apply below_alloc | apply pw_below_drewN | apply below_drew1) | exact HB.out)) hb); clear HB; have HB := n0_; clear n0_; (try clear hb); (try clear hb2); (try clear hk); (try clear hi)) | (go_at_call 27; (with_reducible refine (impl_partnersOf.calls k a0 t155 _ A4.out).mono ?_); rintro e w6 ⟨v156, rfl, ho0, hb⟩; have n0_ := Aside0.mk (Kd.R_lower ho0 (below_size (by repeat (first | (with_reducible first | exact HB.out | apply below_alloc | apply pw_below_drewN | apply below_drew1) | exact HB.out)))); have n1_ := Aside0.mk (below_step (by repeat (first | (with_reducible first | exact HB.out | apply below_alloc | apply pw_below_drewN | apply below_drew1) | exact HB.out)) hb); clear HB; have HO157 := n0_; have HB := n1_; clear n0_ n1_; (try clear hb); (try clear hb2); (try clear hk); (try clear hi); (try clear ho0); obtain ⟨Ao7, co7, eo7⟩ := Kd.R_slice HO157.out; subst eo7))
  repeat (go_quiet (first | (go_at_call 30; (with_reducible refine (impl_WordValid.calls a0 true _ A2.out).mono ?_); rintro e w5 ⟨rfl, hb⟩; have n0_ := Aside0.mk (below_step (by repeat (first | (with_reducible first | exact HB.out | apply below_alloc | apply pw_below_drewN | apply below_drew1) | exact HB.out)) hb); clear HB; have HB := n0_; clear n0_; (try clear hb); (try clear hb2); (try clear hk); (try clear hi)) | (go_at_call 27; (with_reducible refine (impl_partnersOf.calls k a0 t155 _ A4.out).mono ?_); rintro e w6 ⟨v156, rfl, ho0, hb⟩; have n0_ := Aside0.mk (Kd.R_lower ho0 (below_size (by repeat (first | (with_reducible first | exact HB.out | apply below_alloc | apply pw_below_drewN | apply below_drew1) | exact HB.out)))); have n1_ := Aside0.mk (below_step (by repeat (first | (with_reducible first | exact HB.out | apply below_alloc | apply pw_below_drewN | apply below_drew1) | exact HB.out)) hb); clear HB; have HO157 := n0_; have HB := n1_; clear n0_ n1_; (try clear hb); (try clear hb2); (try clear hk); (try clear hi); (try clear ho0); obtain ⟨Ao7, co7, eo7⟩ := Kd.R_slice HO157.out; subst eo7)); try go_wp2_with (first | (go_at_call 30; (with_reducible refine (impl_WordValid.calls a0 true _ A2.out).mono ?_); rintro e w5 ⟨rfl, hb⟩; have n0_ := Aside0.mk (below_step (by repeat (first | (with_reducible first | exact HB.out | apply below_alloc | apply pw_below_drewN | apply below_drew1) | exact HB.out)) hb); clear HB; have HB := n0_; clear n0_; (try clear hb); (try clear hb2); (try clear hk); (try clear hi)) | (go_at_call 27; (with_reducible refine (impl_partnersOf.calls k a0 t155 _ A4.out).mono ?_); rintro e w6 ⟨v156, rfl, ho0, hb⟩; have n0_ := Aside0.mk (Kd.R_lower ho0 (below_size (by repeat (first | (with_reducible first | exact HB.out | apply below_alloc | apply pw_below_drewN | apply below_drew1) | exact HB.out)))); have n1_ := Aside0.mk (below_step (by repeat (first | (with_reducible first | exact HB.out | apply below_alloc | apply pw_below_drewN | apply below_drew1) | exact HB.out)) hb); clear HB; have HO157 := n0_; have HB := n1_; clear n0_ n1_; (try clear hb); (try clear hb2); (try clear hk); (try clear hi); (try clear ho0); obtain ⟨Ao7, co7, eo7⟩ := Kd.R_slice HO157.out; subst eo7)))
  go_loopg [11] k (fun kq v11 w' => ∃ (x11_1 : Int), v11 = .int .i64 x11_1 ∧ Aside0 (impl_WordSided.l0 kq a0 t155 (t155.length : Int) x11_1 = some r) ∧ Aside0 (kq ≤ k) ∧ Aside0 (Kd.R (Kd.int .i64) 3 w' w.heap.size (fun _ => True) (.slice Ao7 t155.length co7) t155) ∧ Aside0 (Below w.heap.size w w'))
  case atStart => exact ⟨(0), (by first | rfl | (simp; done) | (simp [*]; done)), H', ⟨Nat.le_refl _⟩, ⟨by (with_reducible repeat (first | apply Kd.R_alloc | apply Kd.R_drewN | apply Kd.R_drew)); exact HO157.out⟩, ⟨by repeat (first | (with_reducible first | exact HB.out | apply below_alloc | apply pw_below_drewN | apply below_drew1) | exact HB.out)⟩⟩
  case round =>
   clear H'
   try clear c1
   try clear p2
   try clear c3
   obtain ⟨x11_1, rfl, HA, HK1, HO_9, HB⟩ := hrel
   cases gk with
   | zero => exact absurd HA.out (by simp [impl_WordSided.l0])
   | succ k1 =>
    have H := HA.out
    clear HA
    simp only [impl_WordSided.l0] at H
    by_cases c8 : x11_1 < (t155.length : Int)
    ·rw [if_pos c8] at H
     have c8b0 : decide (x11_1 < (t155.length : Int)) = true := decide_eq_true c8
     clear c8
     by_cases c9 : 0 ≤ x11_1
     ·rw [if_pos c9] at H
      have c9b0 : decide (0 ≤ x11_1) = true := decide_eq_true c9
      clear c9
      by_cases c10 : x11_1 < (t155.length : Int)
      ·rw [if_pos c10] at H
       have c10b0 : decide (x11_1 < (t155.length : Int)) = true := decide_eq_true c10
       clear c10
       by_cases c11 : x11_1 < (a0.size : Int)
       ·rw [if_pos c11] at H
        have c11b0 : decide (x11_1 < (a0.size : Int)) = true := decide_eq_true c11
        clear c11
        by_cases c13 : 0 ≤ (rd t155 x11_1)
        ·rw [if_pos c13] at H
         have c13b0 : decide (0 ≤ (rd t155 x11_1)) = true := decide_eq_true c13
         clear c13
         by_cases c14 : (rd t155 x11_1) < (a0.size : Int)
         ·rw [if_pos c14] at H
          have c14b0 : decide ((rd t155 x11_1) < (a0.size : Int)) = true := decide_eq_true c14
          clear c14
          by_cases c16 : (bt a0 x11_1) = (bt a0 (rd t155 x11_1))
          ·rw [if_pos c16] at H
           have c16b0 : ((bt a0 x11_1) == (bt a0 (rd t155 x11_1))) = true := beq_iff_eq.mpr c16
           have c16b1 : ((bt a0 x11_1) != (bt a0 (rd t155 x11_1))) = false := bne_eq_false_iff_eq.mpr c16
           clear c16
           obtain rfl := Option.some.inj H
           have p158 : 0 ≤ (x11_1 : Int) := of_decide_eq_true (by first | (with_reducible assumption) | assumption)
           have q158 : x11_1 < (t155.length : Int) := of_decide_eq_true (by first | (with_reducible assumption) | assumption)
           obtain ⟨ad158, e158, hx158_0⟩ := Kd.at_int (Kd.R_reads' HO_9.out).2.2 x11_1 p158 q158
           cases e158
           replace p158 := eq_true p158
           replace q158 := eq_true q158
           have p12 : 0 ≤ (x11_1 : Int) := of_decide_eq_true (by first | (with_reducible assumption) | assumption)
           have q12 : x11_1 < (a0.size : Int) := of_decide_eq_true (by first | (with_reducible assumption) | assumption)
           have hx12 := bt_at a0 x11_1
           replace p12 := eq_true p12
           replace q12 := eq_true q12
           have p15 : 0 ≤ ((rd t155 x11_1) : Int) := of_decide_eq_true (by first | (with_reducible assumption) | assumption)
           have q15 : (rd t155 x11_1) < (a0.size : Int) := of_decide_eq_true (by first | (with_reducible assumption) | assumption)
           have hx15 := bt_at a0 (rd t155 x11_1)
           replace p15 := eq_true p15
           replace q15 := eq_true q15
           go_wp2
           repeat (go_quiet (fail); try go_wp2)
           go_ret
           exact ⟨by first | rfl | (simp [errW_none, errW_some] <;> rfl) | (simp [*, errW_none, errW_some] <;> rfl), by repeat (first | (with_reducible first | exact HB.out | apply below_alloc | apply pw_below_drewN | apply below_drew1) | exact HB.out)⟩
          ·rw [if_neg c16] at H
           have c16b0 : ((bt a0 x11_1) == (bt a0 (rd t155 x11_1))) = false := beq_eq_false_iff_ne.mpr c16
           have c16b1 : ((bt a0 x11_1) != (bt a0 (rd t155 x11_1))) = true := bne_iff_ne.mpr c16
           have H' := Aside0.mk H
           clear H
           have p158 : 0 ≤ (x11_1 : Int) := of_decide_eq_true (by first | (with_reducible assumption) | assumption)
           have q158 : x11_1 < (t155.length : Int) := of_decide_eq_true (by first | (with_reducible assumption) | assumption)
           obtain ⟨ad158, e158, hx158_0⟩ := Kd.at_int (Kd.R_reads' HO_9.out).2.2 x11_1 p158 q158
           cases e158
           replace p158 := eq_true p158
           replace q158 := eq_true q158
           have p12 : 0 ≤ (x11_1 : Int) := of_decide_eq_true (by first | (with_reducible assumption) | assumption)
           have q12 : x11_1 < (a0.size : Int) := of_decide_eq_true (by first | (with_reducible assumption) | assumption)
           have hx12 := bt_at a0 x11_1
           replace p12 := eq_true p12
           replace q12 := eq_true q12
           have p15 : 0 ≤ ((rd t155 x11_1) : Int) := of_decide_eq_true (by first | (with_reducible assumption) | assumption)
           have q15 : (rd t155 x11_1) < (a0.size : Int) := of_decide_eq_true (by first | (with_reducible assumption) | assumption)
           have hx15 := bt_at a0 (rd t155 x11_1)
           replace p15 := eq_true p15
           replace q15 := eq_true q15
           go_wp2
           repeat (go_quiet (fail); try go_wp2)
           go_roundg k1
           case measure => have := HK1.out; omega
           case rel => exact ⟨(wrap64 (x11_1 + 1)), (by first | rfl | (simp; done) | (simp [*]; done)), H', ⟨by have := HK1.out; omega⟩, ⟨by (with_reducible repeat (first | apply Kd.R_alloc | apply Kd.R_drewN | apply Kd.R_drew)); exact HO_9.out⟩, ⟨by repeat (first | (with_reducible first | exact HB.out | apply below_alloc | apply pw_below_drewN | apply below_drew1) | exact HB.out)⟩⟩
         ·rw [if_neg c14] at H
          exact absurd H (by simp)
        ·rw [if_neg c13] at H
         exact absurd H (by simp)
       ·rw [if_neg c11] at H
        exact absurd H (by simp)
      ·rw [if_neg c10] at H
       exact absurd H (by simp)
     ·rw [if_neg c9] at H
      exact absurd H (by simp)
    ·rw [if_neg c8] at H
     have c8b0 : decide (x11_1 < (t155.length : Int)) = false := decide_eq_false c8
     clear c8
     obtain rfl := Option.some.inj H
     go_wp2
     repeat (go_quiet (fail); try go_wp2)
     go_ret
     exact ⟨by first | rfl | (simp [errW_none, errW_some] <;> rfl) | (simp [*, errW_none, errW_some] <;> rfl), by repeat (first | (with_reducible first | exact HB.out | apply below_alloc | apply pw_below_drewN | apply below_drew1) | exact HB.out)⟩
 ·replace c3 := Bool.eq_false_iff.mpr c3
  subst c3
  have H1 : (some false) = some r := by rw [if_neg (show ¬ (false = true) by decide)] at H; exact H
  clear H
  have H := H1
  clear H1
  obtain rfl := Option.some.inj H
  go_enter Try.func19, Try.ntmps19
  go_wp2_with (first | (go_at_call 30; (with_reducible refine (impl_WordValid.calls a0 false _ A2.out).mono ?_); rintro e w17 ⟨rfl, hb⟩; have n0_ := Aside0.mk (below_step (by repeat (first | (with_reducible first | exact HB.out | apply below_alloc | apply pw_below_drewN | apply below_drew1) | exact HB.out)) hb); clear HB; have HB := n0_; clear n0_; (try clear hb); (try clear hb2); (try clear hk); (try clear hi)))
  repeat (go_quiet (first | (go_at_call 30; (with_reducible refine (impl_WordValid.calls a0 false _ A2.out).mono ?_); rintro e w17 ⟨rfl, hb⟩; have n0_ := Aside0.mk (below_step (by repeat (first | (with_reducible first | exact HB.out | apply below_alloc | apply pw_below_drewN | apply below_drew1) | exact HB.out)) hb); clear HB; have HB := n0_; clear n0_; (try clear hb); (try clear hb2); (try clear hk); (try clear hi))); try go_wp2_with (first | (go_at_call 30; (with_reducible refine (impl_WordValid.calls a0 false _ A2.out).mono ?_); rintro e w17 ⟨rfl, hb⟩; have n0_ := Aside0.mk (below_step (by repeat (first | (with_reducible first | exact HB.out | apply below_alloc | apply pw_below_drewN | apply below_drew1) | exact HB.out)) hb); clear HB; have HB := n0_; clear n0_; (try clear hb); (try clear hb2); (try clear hk); (try clear hi))))
  go_ret
  exact ⟨by first | rfl | (simp [errW_none, errW_some] <;> rfl) | (simp [*, errW_none, errW_some] <;> rfl), by repeat (first | (with_reducible first | exact HB.out | apply below_alloc | apply pw_below_drewN | apply below_drew1) | exact HB.out)⟩

/-! ### impl_WordGluing: function 7 -/
def impl_WordGluing.f (k : Nat) (a0 : ByteArray) : Option (List Int × Bool) := (impl_WordSided.f k a0).bind fun t159 => (if t159 = true then ((impl_partnersOf.f k a0).bind fun t160 => (some (t160, true))) else (some (([] : List Int), false)))
set_option maxHeartbeats 8000000 in
set_option maxRecDepth 100000 in
theorem impl_WordGluing.calls (k : Nat) (a0 : ByteArray) (r1 : List Int) (r2 : Bool) (w : World) (h : impl_WordGluing.f k a0 = some (r1, r2)) :
    Calls Try.prog 7 #[.string a0] w fun e w' => ∃ v0_ : Value, e = .returned (.tuple #[v0_, .bool r2]) ∧ Kd.R (Kd.int .i64) 3 w' w.heap.size (fun _ => True) v0_ r1 ∧ Below w.heap.size w w' := by
 have HB := Aside0.mk (Below.refl w.heap.size w)
 have H : ((impl_WordSided.f k a0).bind fun t159 => (if t159 = true then ((impl_partnersOf.f k a0).bind fun t160 => (some (t160, true))) else (some (([] : List Int), false)))) = some (r1, r2) := h
 clear h
 replace H := Option.bind_eq_some_iff.mp H
 obtain ⟨t159, A20, H⟩ := H
 replace H : (if t159 = true then ((impl_partnersOf.f k a0).bind fun t160 => (some (t160, true))) else (some (([] : List Int), false))) = some (r1, r2) := H
 have A2 := Aside0.mk A20
 clear A20
 by_cases c3 : t159 = true
 ·subst c3
  have H1 : ((impl_partnersOf.f k a0).bind fun t160 => (some (t160, true))) = some (r1, r2) := by rw [if_pos rfl] at H; exact H
  clear H
  have H := H1
  clear H1
  replace H := Option.bind_eq_some_iff.mp H
  obtain ⟨t160, A40, H⟩ := H
  replace H : (some (t160, true)) = some (r1, r2) := H
  have A4 := Aside0.mk A40
  clear A40
  simp only [Option.some.injEq, Prod.mk.injEq] at H
  obtain ⟨rfl, rfl⟩ := H
  go_enter Try.func7, Try.ntmps7
  go_wp2_with (first | ((with_reducible refine gate_callee (f := 19) rfl ?_); refine goesL_ (some 5) rfl rfl Try.func19 (by kernel_rfl) rfl #[.string a0] rfl (by (try simp only [List.map_toArray, List.map_cons, List.map_nil]); first | done | rfl | (simp only [List.length_drop, List.length_take]; rfl)) ?_; (with_reducible refine (impl_WordSided.calls k a0 true _ A2.out).mono ?_); rintro e w5 ⟨rfl, hb⟩; refine ⟨_, rfl, ?_⟩; have n0_ := Aside0.mk (below_step (by repeat (first | (with_reducible first | exact HB.out | apply below_alloc | apply pw_below_drewN | apply below_drew1) | exact HB.out)) hb); clear HB; have HB := n0_; clear n0_; (try clear hb); (try clear hb2); (try clear hk); (try clear hi)) | ((with_reducible refine gate_callee (f := 27) rfl ?_); refine goesL_ (some 8) rfl rfl Try.func27 (by kernel_rfl) rfl #[.string a0] rfl (by (try simp only [List.map_toArray, List.map_cons, List.map_nil]); first | done | rfl | (simp only [List.length_drop, List.length_take]; rfl)) ?_; (with_reducible refine (impl_partnersOf.calls k a0 t160 _ A4.out).mono ?_); rintro e w6 ⟨v161, rfl, ho0, hb⟩; refine ⟨_, rfl, ?_⟩; have n0_ := Aside0.mk (Kd.R_lower ho0 (below_size (by repeat (first | (with_reducible first | exact HB.out | apply below_alloc | apply pw_below_drewN | apply below_drew1) | exact HB.out)))); have n1_ := Aside0.mk (below_step (by repeat (first | (with_reducible first | exact HB.out | apply below_alloc | apply pw_below_drewN | apply below_drew1) | exact HB.out)) hb); clear HB; have HO162 := n0_; have HB := n1_; clear n0_ n1_; (try clear hb); (try clear hb2); (try clear hk); (try clear hi); (try clear ho0)))
  go_ret2
  exact ⟨_, by first | rfl | (simp [errW_none, errW_some] <;> rfl) | (simp [*, errW_none, errW_some] <;> rfl), by (with_reducible repeat (first | apply Kd.R_alloc | apply Kd.R_drewN | apply Kd.R_drew)); exact HO162.out, by repeat (first | (with_reducible first | exact HB.out | apply below_alloc | apply pw_below_drewN | apply below_drew1) | exact HB.out)⟩
 ·replace c3 := Bool.eq_false_iff.mpr c3
  subst c3
  have H1 : (some (([] : List Int), false)) = some (r1, r2) := by rw [if_neg (show ¬ (false = true) by decide)] at H; exact H
  clear H
  have H := H1
  clear H1
  simp only [Option.some.injEq, Prod.mk.injEq] at H
  obtain ⟨rfl, rfl⟩ := H
  go_enter Try.func7, Try.ntmps7
  go_wp2_with (first | ((with_reducible refine gate_callee (f := 19) rfl ?_); refine goesL_ (some 5) rfl rfl Try.func19 (by kernel_rfl) rfl #[.string a0] rfl (by (try simp only [List.map_toArray, List.map_cons, List.map_nil]); first | done | rfl | (simp only [List.length_drop, List.length_take]; rfl)) ?_; (with_reducible refine (impl_WordSided.calls k a0 false _ A2.out).mono ?_); rintro e w7 ⟨rfl, hb⟩; refine ⟨_, rfl, ?_⟩; have n0_ := Aside0.mk (below_step (by repeat (first | (with_reducible first | exact HB.out | apply below_alloc | apply pw_below_drewN | apply below_drew1) | exact HB.out)) hb); clear HB; have HB := n0_; clear n0_; (try clear hb); (try clear hb2); (try clear hk); (try clear hi)))
  go_ret2
  exact ⟨_, by first | rfl | (simp [errW_none, errW_some] <;> rfl) | (simp [*, errW_none, errW_some] <;> rfl), by first | exact Kd.R_nil _ _ _ _ _ | exact Kd.N_nil _ _ _ _ _ | exact Kd.V_nil _ _ _ _ _ | exact Kd.Q_nil _ _ _ _ _ | exact Kd.S_nil _ _ _ _ _, by repeat (first | (with_reducible first | exact HB.out | apply below_alloc | apply pw_below_drewN | apply below_drew1) | exact HB.out)⟩

/-! ### spec_l8Partner: function 29 -/
def spec_l8Partner.l0 : Nat → ByteArray → Int → Int → Option (Int)
  | 0, _, _, _ => none
  | k + 1, x0, x1, x5 => if x5 < (x0.size : Int) then (if x5 = x1 then (spec_l8Partner.l0 k x0 x1 (wrap64 (x5 + 1))) else (if 0 ≤ x5 then ((spec_l8Letter.f k (bt x0 x5)).bind fun t163 => (if 0 ≤ x1 then (if x1 < (x0.size : Int) then ((spec_l8Letter.f k (bt x0 x1)).bind fun t164 => (if t163 = t164 then (some x5) else (spec_l8Partner.l0 k x0 x1 (wrap64 (x5 + 1))))) else (none)) else (none))) else (none))) else (some x1)
def spec_l8Partner.f (k : Nat) (a0 : ByteArray) (a1 : Int) : Option (Int) := spec_l8Partner.l0 k a0 a1 0
set_option maxHeartbeats 8000000 in
set_option maxRecDepth 100000 in
theorem spec_l8Partner.calls (k : Nat) (a0 : ByteArray) (a1 : Int) (r : Int) (w : World) (h : spec_l8Partner.f k a0 a1 = some r) :
    Calls Try.prog 29 #[.string a0, .int .i64 a1] w fun e w' => e = .returned (.int .i64 r) ∧ Drawn0 w w' := by
 have H : (spec_l8Partner.l0 k a0 a1 0) = some r := h
 clear h
 have H' := Aside0.mk H
 clear H
 go_enter Try.func29, Try.ntmps29
 go_wp2
 repeat (go_quiet (fail); try go_wp2)
 go_loopg [5] k (fun kq v5 w' => ∃ (x5_1 : Int), v5 = .int .i64 x5_1 ∧ Aside0 (spec_l8Partner.l0 kq a0 a1 x5_1 = some r) ∧ Aside0 (kq ≤ k) ∧ Drawn0 w w')
 case atStart => exact ⟨(0), (by first | rfl | (simp; done) | (simp [*]; done)), H', ⟨Nat.le_refl _⟩, by repeat (first | exact Drawn0.refl _ | apply Drawn0.step)⟩
 case round =>
  clear H'
  try clear c2
  try clear p2
  obtain ⟨x5_1, rfl, HA, HK1, ⟨m1, rfl⟩⟩ := hrel
  cases gk with
  | zero => exact absurd HA.out (by simp [spec_l8Partner.l0])
  | succ k1 =>
   have H := HA.out
   clear HA
   simp only [spec_l8Partner.l0] at H
   by_cases c3 : x5_1 < (a0.size : Int)
   ·rw [if_pos c3] at H
    have c3b0 : decide (x5_1 < (a0.size : Int)) = true := decide_eq_true c3
    clear c3
    by_cases c4 : x5_1 = a1
    ·rw [if_pos c4] at H
     have c4b0 : (x5_1 == a1) = true := beq_iff_eq.mpr c4
     have c4b1 : (x5_1 != a1) = false := bne_eq_false_iff_eq.mpr c4
     clear c4
     have H' := Aside0.mk H
     clear H
     go_wp2
     repeat (go_quiet (fail); try go_wp2)
     go_roundg k1
     case measure => have := HK1.out; omega
     case rel => exact ⟨(wrap64 (x5_1 + 1)), (by first | rfl | (simp; done) | (simp [*]; done)), H', ⟨by have := HK1.out; omega⟩, by repeat (first | exact Drawn0.refl _ | apply Drawn0.step)⟩
    ·rw [if_neg c4] at H
     have c4b0 : (x5_1 == a1) = false := beq_eq_false_iff_ne.mpr c4
     have c4b1 : (x5_1 != a1) = true := bne_iff_ne.mpr c4
     by_cases c5 : 0 ≤ x5_1
     ·rw [if_pos c5] at H
      have c5b0 : decide (0 ≤ x5_1) = true := decide_eq_true c5
      clear c5
      replace H := Option.bind_eq_some_iff.mp H
      obtain ⟨t163, A70, H⟩ := H
      replace H : (if 0 ≤ a1 then (if a1 < (a0.size : Int) then ((spec_l8Letter.f k1 (bt a0 a1)).bind fun t164 => (if t163 = t164 then (some x5_1) else (spec_l8Partner.l0 k1 a0 a1 (wrap64 (x5_1 + 1))))) else (none)) else (none)) = some r := H
      have A7 := Aside0.mk A70
      clear A70
      by_cases c8 : 0 ≤ a1
      ·rw [if_pos c8] at H
       have c8b0 : decide (0 ≤ a1) = true := decide_eq_true c8
       clear c8
       by_cases c9 : a1 < (a0.size : Int)
       ·rw [if_pos c9] at H
        have c9b0 : decide (a1 < (a0.size : Int)) = true := decide_eq_true c9
        clear c9
        replace H := Option.bind_eq_some_iff.mp H
        obtain ⟨t164, A110, H⟩ := H
        replace H : (if t163 = t164 then (some x5_1) else (spec_l8Partner.l0 k1 a0 a1 (wrap64 (x5_1 + 1)))) = some r := H
        have A11 := Aside0.mk A110
        clear A110
        by_cases c12 : t163 = t164
        ·rw [if_pos c12] at H
         have c12b0 : (t163 == t164) = true := beq_iff_eq.mpr c12
         have c12b1 : (t163 != t164) = false := bne_eq_false_iff_eq.mpr c12
         clear c12
         obtain rfl := Option.some.inj H
         have p6 : 0 ≤ (x5_1 : Int) := of_decide_eq_true (by first | (with_reducible assumption) | assumption)
         have q6 : x5_1 < (a0.size : Int) := of_decide_eq_true (by first | (with_reducible assumption) | assumption)
         have hx6 := bt_at a0 x5_1
         replace p6 := eq_true p6
         replace q6 := eq_true q6
         go_wp2_with (first | (go_at_call 46; (with_reducible refine (spec_l8Letter.calls k1 (bt a0 x5_1) t163 _ A7.out).mono ?_); rintro e w' ⟨rfl, ⟨nd, rfl⟩⟩; (try first | exact ⟨rfl, _, World.drewN_drewN _ _ _⟩ | exact ⟨rfl, _, Eq.trans (World.drewN_drewN _ _ _) (congrArg (World.drewN _) (Nat.add_assoc _ _ _))⟩); have p10 : 0 ≤ (a1 : Int) := of_decide_eq_true (by first | (with_reducible assumption) | assumption); have q10 : a1 < (a0.size : Int) := of_decide_eq_true (by first | (with_reducible assumption) | assumption); have hx10 := bt_at a0 a1; replace p10 := eq_true p10; replace q10 := eq_true q10) | (go_at_call 46; (with_reducible refine (spec_l8Letter.calls k1 (bt a0 a1) t164 _ A11.out).mono ?_); rintro e w' ⟨rfl, ⟨nd, rfl⟩⟩; (try first | exact ⟨rfl, _, World.drewN_drewN _ _ _⟩ | exact ⟨rfl, _, Eq.trans (World.drewN_drewN _ _ _) (congrArg (World.drewN _) (Nat.add_assoc _ _ _))⟩)))
         repeat (go_quiet (first | (go_at_call 46; (with_reducible refine (spec_l8Letter.calls k1 (bt a0 x5_1) t163 _ A7.out).mono ?_); rintro e w' ⟨rfl, ⟨nd, rfl⟩⟩; (try first | exact ⟨rfl, _, World.drewN_drewN _ _ _⟩ | exact ⟨rfl, _, Eq.trans (World.drewN_drewN _ _ _) (congrArg (World.drewN _) (Nat.add_assoc _ _ _))⟩); have p10 : 0 ≤ (a1 : Int) := of_decide_eq_true (by first | (with_reducible assumption) | assumption); have q10 : a1 < (a0.size : Int) := of_decide_eq_true (by first | (with_reducible assumption) | assumption); have hx10 := bt_at a0 a1; replace p10 := eq_true p10; replace q10 := eq_true q10) | (go_at_call 46; (with_reducible refine (spec_l8Letter.calls k1 (bt a0 a1) t164 _ A11.out).mono ?_); rintro e w' ⟨rfl, ⟨nd, rfl⟩⟩; (try first | exact ⟨rfl, _, World.drewN_drewN _ _ _⟩ | exact ⟨rfl, _, Eq.trans (World.drewN_drewN _ _ _) (congrArg (World.drewN _) (Nat.add_assoc _ _ _))⟩))); try go_wp2_with (first | (go_at_call 46; (with_reducible refine (spec_l8Letter.calls k1 (bt a0 x5_1) t163 _ A7.out).mono ?_); rintro e w' ⟨rfl, ⟨nd, rfl⟩⟩; (try first | exact ⟨rfl, _, World.drewN_drewN _ _ _⟩ | exact ⟨rfl, _, Eq.trans (World.drewN_drewN _ _ _) (congrArg (World.drewN _) (Nat.add_assoc _ _ _))⟩); have p10 : 0 ≤ (a1 : Int) := of_decide_eq_true (by first | (with_reducible assumption) | assumption); have q10 : a1 < (a0.size : Int) := of_decide_eq_true (by first | (with_reducible assumption) | assumption); have hx10 := bt_at a0 a1; replace p10 := eq_true p10; replace q10 := eq_true q10) | (go_at_call 46; (with_reducible refine (spec_l8Letter.calls k1 (bt a0 a1) t164 _ A11.out).mono ?_); rintro e w' ⟨rfl, ⟨nd, rfl⟩⟩; (try first | exact ⟨rfl, _, World.drewN_drewN _ _ _⟩ | exact ⟨rfl, _, Eq.trans (World.drewN_drewN _ _ _) (congrArg (World.drewN _) (Nat.add_assoc _ _ _))⟩))))
         go_ret
         exact ⟨by first | rfl | (simp; done) | (simp [*]; done), by repeat (first | exact Drawn0.refl _ | apply Drawn0.step)⟩
        ·rw [if_neg c12] at H
         have c12b0 : (t163 == t164) = false := beq_eq_false_iff_ne.mpr c12
         have c12b1 : (t163 != t164) = true := bne_iff_ne.mpr c12
         have H' := Aside0.mk H
         clear H
         have p6 : 0 ≤ (x5_1 : Int) := of_decide_eq_true (by first | (with_reducible assumption) | assumption)
         have q6 : x5_1 < (a0.size : Int) := of_decide_eq_true (by first | (with_reducible assumption) | assumption)
         have hx6 := bt_at a0 x5_1
         replace p6 := eq_true p6
         replace q6 := eq_true q6
         go_wp2_with (first | (go_at_call 46; (with_reducible refine (spec_l8Letter.calls k1 (bt a0 x5_1) t163 _ A7.out).mono ?_); rintro e w' ⟨rfl, ⟨nd, rfl⟩⟩; (try first | exact ⟨rfl, _, World.drewN_drewN _ _ _⟩ | exact ⟨rfl, _, Eq.trans (World.drewN_drewN _ _ _) (congrArg (World.drewN _) (Nat.add_assoc _ _ _))⟩); have p10 : 0 ≤ (a1 : Int) := of_decide_eq_true (by first | (with_reducible assumption) | assumption); have q10 : a1 < (a0.size : Int) := of_decide_eq_true (by first | (with_reducible assumption) | assumption); have hx10 := bt_at a0 a1; replace p10 := eq_true p10; replace q10 := eq_true q10) | (go_at_call 46; (with_reducible refine (spec_l8Letter.calls k1 (bt a0 a1) t164 _ A11.out).mono ?_); rintro e w' ⟨rfl, ⟨nd, rfl⟩⟩; (try first | exact ⟨rfl, _, World.drewN_drewN _ _ _⟩ | exact ⟨rfl, _, Eq.trans (World.drewN_drewN _ _ _) (congrArg (World.drewN _) (Nat.add_assoc _ _ _))⟩)))
         repeat (go_quiet (first | (go_at_call 46; (with_reducible refine (spec_l8Letter.calls k1 (bt a0 x5_1) t163 _ A7.out).mono ?_); rintro e w' ⟨rfl, ⟨nd, rfl⟩⟩; (try first | exact ⟨rfl, _, World.drewN_drewN _ _ _⟩ | exact ⟨rfl, _, Eq.trans (World.drewN_drewN _ _ _) (congrArg (World.drewN _) (Nat.add_assoc _ _ _))⟩); have p10 : 0 ≤ (a1 : Int) := of_decide_eq_true (by first | (with_reducible assumption) | assumption); have q10 : a1 < (a0.size : Int) := of_decide_eq_true (by first | (with_reducible assumption) | assumption); have hx10 := bt_at a0 a1; replace p10 := eq_true p10; replace q10 := eq_true q10) | (go_at_call 46; (with_reducible refine (spec_l8Letter.calls k1 (bt a0 a1) t164 _ A11.out).mono ?_); rintro e w' ⟨rfl, ⟨nd, rfl⟩⟩; (try first | exact ⟨rfl, _, World.drewN_drewN _ _ _⟩ | exact ⟨rfl, _, Eq.trans (World.drewN_drewN _ _ _) (congrArg (World.drewN _) (Nat.add_assoc _ _ _))⟩))); try go_wp2_with (first | (go_at_call 46; (with_reducible refine (spec_l8Letter.calls k1 (bt a0 x5_1) t163 _ A7.out).mono ?_); rintro e w' ⟨rfl, ⟨nd, rfl⟩⟩; (try first | exact ⟨rfl, _, World.drewN_drewN _ _ _⟩ | exact ⟨rfl, _, Eq.trans (World.drewN_drewN _ _ _) (congrArg (World.drewN _) (Nat.add_assoc _ _ _))⟩); have p10 : 0 ≤ (a1 : Int) := of_decide_eq_true (by first | (with_reducible assumption) | assumption); have q10 : a1 < (a0.size : Int) := of_decide_eq_true (by first | (with_reducible assumption) | assumption); have hx10 := bt_at a0 a1; replace p10 := eq_true p10; replace q10 := eq_true q10) | (go_at_call 46; (with_reducible refine (spec_l8Letter.calls k1 (bt a0 a1) t164 _ A11.out).mono ?_); rintro e w' ⟨rfl, ⟨nd, rfl⟩⟩; (try first | exact ⟨rfl, _, World.drewN_drewN _ _ _⟩ | exact ⟨rfl, _, Eq.trans (World.drewN_drewN _ _ _) (congrArg (World.drewN _) (Nat.add_assoc _ _ _))⟩))))
         go_roundg k1
         case measure => have := HK1.out; omega
         case rel => exact ⟨(wrap64 (x5_1 + 1)), (by first | rfl | (simp; done) | (simp [*]; done)), H', ⟨by have := HK1.out; omega⟩, by repeat (first | exact Drawn0.refl _ | apply Drawn0.step)⟩
       ·rw [if_neg c9] at H
        exact absurd H (by simp)
      ·rw [if_neg c8] at H
       exact absurd H (by simp)
     ·rw [if_neg c5] at H
      exact absurd H (by simp)
   ·rw [if_neg c3] at H
    have c3b0 : decide (x5_1 < (a0.size : Int)) = false := decide_eq_false c3
    clear c3
    obtain rfl := Option.some.inj H
    go_wp2
    repeat (go_quiet (fail); try go_wp2)
    go_ret
    exact ⟨by first | rfl | (simp; done) | (simp [*]; done), by repeat (first | exact Drawn0.refl _ | apply Drawn0.step)⟩

end Go.Proofs.Ytpfnchjbbagmdaa.PFnWordGluing
