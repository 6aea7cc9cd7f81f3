-- Made by a program of this session (wip/tools) out of the loaded program; not trusted: Lean checks it.
import Derived.Test.YtpfnchjbbagmdaaDoorPFnWordCutx0
import Derived.Test.YtpfnchjbbagmdaaDoorPFnWordCutx1
import Derived.Test.YtpfnchjbbagmdaaDoorPFnWordCutx5
namespace Go.Proofs.YtpfnchjbbagmdaaDoor.PFnWordCut
open Go.RowKit Go.Proofs.YtpfnchjbbagmdaaDoorW.PrintWords Go.Proofs.YtpfnchjbbagmdaaDoorW.PrintLast Go.Proofs.YtpfnchjbbagmdaaDoorW.PrintMore
attribute [local go_sem] max2_int min2_int max_two min_two max_three min_three max_four min_four   -- for this text's walks alone
set_option linter.unusedVariables false
set_option linter.unusedSimpArgs false

/-! ### impl_WordCut: function 29 -/
def impl_WordCut.j0 : Nat → ByteArray → Int → Int → Bool → Option (ByteArray × Bool)
  | 0, _, _, _, _ => none
  | k + 1, x0, x1, x2, x33 => if x33 = true then (some ((⟨#[]⟩ : ByteArray), false)) else ((impl_partnersOf.f k x0).bind fun t239 => (if 0 ≤ x2 then (if x2 < (t239.length : Int) then (if (rd t239 x2) < x1 then (some ((⟨#[]⟩ : ByteArray), false)) else (if x2 < (x0.size : Int) then (if 0 ≤ (wrap64 ((rd t239 x2) + 1)) then (if (wrap64 ((rd t239 x2) + 1)) ≤ (x0.size : Int) then ((some (([Go.bits .andNot .u8 (bt x0 x2) 32] : List Int) : List Int)).bind fun y243 => (if (x0.extract ((wrap64 ((rd t239 x2) + 1)) : Int).toNat x0.size).size + (strOfNums y243).size ≤ 9223372036854775807 then (if 0 ≤ x1 then (if x1 ≤ (rd t239 x2) then (if (rd t239 x2) ≤ (x0.size : Int) then (if ((x0.extract ((wrap64 ((rd t239 x2) + 1)) : Int).toNat x0.size) ++ (strOfNums y243)).size + (x0.extract (x1 : Int).toNat ((rd t239 x2) : Int).toNat).size ≤ 9223372036854775807 then (if 0 ≤ (rd t239 x2) then (if (rd t239 x2) < (x0.size : Int) then (if (bt x0 x2) = (bt x0 (rd t239 x2)) then ((impl_reversed.f k (((x0.extract ((wrap64 ((rd t239 x2) + 1)) : Int).toNat x0.size) ++ (strOfNums y243)) ++ (x0.extract (x1 : Int).toNat ((rd t239 x2) : Int).toNat))).bind fun t246 => (if 0 ≤ (wrap64 (x2 + 1)) then (if (wrap64 (x2 + 1)) ≤ x1 then (if x1 ≤ (x0.size : Int) then ((some (([Go.bits .or .u8 (bt x0 x2) 32] : List Int) : List Int)).bind fun y247 => (if (x0.extract ((wrap64 (x2 + 1)) : Int).toNat (x1 : Int).toNat).size + (strOfNums y247).size ≤ 9223372036854775807 then (if x2 ≤ (x0.size : Int) then (if ((x0.extract ((wrap64 (x2 + 1)) : Int).toNat (x1 : Int).toNat) ++ (strOfNums y247)).size + (x0.extract 0 (x2 : Int).toNat).size ≤ 9223372036854775807 then (if (((x0.extract ((wrap64 (x2 + 1)) : Int).toNat (x1 : Int).toNat) ++ (strOfNums y247)) ++ (x0.extract 0 (x2 : Int).toNat)).size + t246.size ≤ 9223372036854775807 then (some (((((x0.extract ((wrap64 (x2 + 1)) : Int).toNat (x1 : Int).toNat) ++ (strOfNums y247)) ++ (x0.extract 0 (x2 : Int).toNat)) ++ t246), true)) else (none)) else (none)) else (none)) else (none))) else (none)) else (none)) else (none))) else (if 0 ≤ (wrap64 (x2 + 1)) then (if (wrap64 (x2 + 1)) ≤ x1 then (if x1 ≤ (x0.size : Int) then ((some (([Go.bits .or .u8 (bt x0 x2) 32] : List Int) : List Int)).bind fun y250 => (if (x0.extract ((wrap64 (x2 + 1)) : Int).toNat (x1 : Int).toNat).size + (strOfNums y250).size ≤ 9223372036854775807 then (if x2 ≤ (x0.size : Int) then (if ((x0.extract ((wrap64 (x2 + 1)) : Int).toNat (x1 : Int).toNat) ++ (strOfNums y250)).size + (x0.extract 0 (x2 : Int).toNat).size ≤ 9223372036854775807 then (if (((x0.extract ((wrap64 (x2 + 1)) : Int).toNat (x1 : Int).toNat) ++ (strOfNums y250)) ++ (x0.extract 0 (x2 : Int).toNat)).size + (((x0.extract ((wrap64 ((rd t239 x2) + 1)) : Int).toNat x0.size) ++ (strOfNums y243)) ++ (x0.extract (x1 : Int).toNat ((rd t239 x2) : Int).toNat)).size ≤ 9223372036854775807 then (some (((((x0.extract ((wrap64 (x2 + 1)) : Int).toNat (x1 : Int).toNat) ++ (strOfNums y250)) ++ (x0.extract 0 (x2 : Int).toNat)) ++ (((x0.extract ((wrap64 ((rd t239 x2) + 1)) : Int).toNat x0.size) ++ (strOfNums y243)) ++ (x0.extract (x1 : Int).toNat ((rd t239 x2) : Int).toNat))), true)) else (none)) else (none)) else (none)) else (none))) else (none)) else (none)) else (none))) else (none)) else (none)) else (none)) else (none)) else (none)) else (none)) else (none))) else (none)) else (none)) else (none))) else (none)) else (none)))
def impl_WordCut.f (k : Nat) (a0 : ByteArray) (a1 : Int) (a2 : Int) : Option (ByteArray × Bool) := (impl_WordValid.f a0).bind fun t238 => (if t238 = true then (if a1 < 1 then (impl_WordCut.j0 k a0 a1 a2 true) else (if a1 ≥ (a0.size : Int) then (impl_WordCut.j0 k a0 a1 a2 true) else (if a2 < 0 then (impl_WordCut.j0 k a0 a1 a2 true) else (impl_WordCut.j0 k a0 a1 a2 (decide (a2 ≥ a1)))))) else (impl_WordCut.j0 k a0 a1 a2 true))
def impl_WordCut.T6 : Bool × List (List Nat × List Nat) := (true, [([], []), ([], []), ([0, 1], [0, 1]), ([2], [2]), ([], []), ([], []), ([4, 5], [4, 5]), ([6], [6]), ([3, 0, 1, 2, 3], [3]), ([7, 8, 0, 1, 2, 3, 4, 5, 6, 7, 8], [7])])
def impl_WordCut.B6 : List Nat := [0, 0, 3, 7, 0, 0, 48, 112, 15, 511]
theorem impl_WordCut.tab6 : rtab .any (opsOf Tryd.f29 6) = impl_WordCut.T6 := by kernel_rfl
theorem impl_WordCut.bits6 : waitsOk impl_WordCut.T6.2 impl_WordCut.B6 = true := by kernel_rfl
def impl_WordCut.T7 : Bool × List (List Nat × List Nat) := (true, [([], []), ([], []), ([1], [1]), ([0, 2], [0, 2]), ([], []), ([4], [4]), ([5], [5]), ([3, 6], [3, 6]), ([], []), ([], []), ([], []), ([8, 9, 10], [8, 9, 10]), ([7, 11], [7, 11]), ([12, 0, 1, 2, 3, 4, 5, 6, 7, 8, 9, 10, 11, 12], [12])])
def impl_WordCut.B7 : List Nat := [0, 0, 2, 7, 0, 16, 48, 127, 0, 0, 0, 1792, 4095, 8191]
theorem impl_WordCut.tab7 : rtab .any (opsOf Tryd.f29 7) = impl_WordCut.T7 := by kernel_rfl
theorem impl_WordCut.bits7 : waitsOk impl_WordCut.T7.2 impl_WordCut.B7 = true := by kernel_rfl
def impl_WordCut.T10 : Bool × List (List Nat × List Nat) := (true, [([], []), ([], []), ([1], [1]), ([], []), ([0, 2, 3], [0, 2, 3]), ([], []), ([5], [5]), ([6], [6]), ([4, 7], [4, 7]), ([], []), ([], []), ([9, 10], [9, 10]), ([8, 11], [8, 11]), ([], []), ([12, 13], [12, 13]), ([14, 0, 1, 2, 3, 4, 5, 6, 7, 8, 9, 10, 11, 12, 13, 14], [14]), ([15, 0, 1, 2, 3, 4, 5, 6, 7, 8, 9, 10, 11, 12, 13, 14, 15], [])])
def impl_WordCut.B10 : List Nat := [0, 0, 2, 0, 15, 0, 32, 96, 255, 0, 0, 1536, 4095, 0, 16383, 32767, 65535]
theorem impl_WordCut.tab10 : rtab .any (opsOf Tryd.f29 10) = impl_WordCut.T10 := by kernel_rfl
theorem impl_WordCut.bits10 : waitsOk impl_WordCut.T10.2 impl_WordCut.B10 = true := by kernel_rfl
set_option maxHeartbeats 8000000 in
set_option maxRecDepth 100000 in
theorem impl_WordCut.calls (k : Nat) (a0 : ByteArray) (a1 : Int) (a2 : Int) (r1 : ByteArray) (r2 : Bool) (w : World) (h : impl_WordCut.f k a0 a1 a2 = some (r1, r2)) :
    Calls Tryd.prog 29 #[.string a0, .int .i64 a1, .int .i64 a2] w fun e w' => e = .returned (.tuple #[.string r1, .bool r2]) ∧ Below w.heap.size w w' := by
 have HB := Aside0.mk (Below.refl w.heap.size w)
 have H : ((impl_WordValid.f a0).bind fun t238 => (if t238 = true then (if a1 < 1 then (impl_WordCut.j0 k a0 a1 a2 true) else (if a1 ≥ (a0.size : Int) then (impl_WordCut.j0 k a0 a1 a2 true) else (if a2 < 0 then (impl_WordCut.j0 k a0 a1 a2 true) else (impl_WordCut.j0 k a0 a1 a2 (decide (a2 ≥ a1)))))) else (impl_WordCut.j0 k a0 a1 a2 true))) = some (r1, r2) := h
 clear h
 have HC4 := Aside0.mk H
 clear H
 go_enter Tryd.func29, Tryd.ntmps29
 go_upto_region 1 with (fail)
 go_cut [33] (fun v33 wc => ∃ (kq : Nat) (x33_3 : Bool), v33 = .bool x33_3 ∧ Aside0 (impl_WordCut.j0 kq a0 a1 a2 x33_3 = some (r1, r2)) ∧ Aside0 (kq ≤ k) ∧ Aside0 (Below w.heap.size w wc))
 case first =>
  have H := HC4.out
  clear HC4
  replace H := Option.bind_eq_some_iff.mp H
  obtain ⟨t238, A50, H⟩ := H
  replace H : (if t238 = true then (if a1 < 1 then (impl_WordCut.j0 k a0 a1 a2 true) else (if a1 ≥ (a0.size : Int) then (impl_WordCut.j0 k a0 a1 a2 true) else (if a2 < 0 then (impl_WordCut.j0 k a0 a1 a2 true) else (impl_WordCut.j0 k a0 a1 a2 (decide (a2 ≥ a1)))))) else (impl_WordCut.j0 k a0 a1 a2 true)) = some (r1, r2) := H
  have A5 := Aside0.mk A50
  clear A50
  by_cases c6 : t238 = true
  ·subst c6
   have H1 : (if a1 < 1 then (impl_WordCut.j0 k a0 a1 a2 true) else (if a1 ≥ (a0.size : Int) then (impl_WordCut.j0 k a0 a1 a2 true) else (if a2 < 0 then (impl_WordCut.j0 k a0 a1 a2 true) else (impl_WordCut.j0 k a0 a1 a2 (decide (a2 ≥ a1)))))) = some (r1, r2) := by rw [if_pos rfl] at H; exact H
   clear H
   have H := H1
   clear H1
   by_cases c7 : a1 < 1
   ·rw [if_pos c7] at H
    have c7b0 : decide (a1 < 1) = true := decide_eq_true c7
    clear c7
    (first | rw [c7b0] | (simp only [i64_w, i32_w]; rw [c7b0]) | skip)
    have H' := Aside0.mk H
    clear H
    go_wp2_with (first | ((with_reducible refine gate_callee (f := 31) rfl ?_); refine goesL_ (some 13) rfl rfl Tryd.func31 (by kernel_rfl) rfl #[.string a0] rfl (by (try simp only [List.map_toArray, List.map_cons, List.map_nil]); first | done | rfl | (simp only [List.length_drop, List.length_take]; rfl)) ?_; (with_reducible refine (impl_WordValid.calls a0 true _ A5.out).mono ?_); rintro e w8 ⟨rfl, hb⟩; refine ⟨_, rfl, ?_⟩; have n0_ := Aside0.mk (below_step (by repeat (first | (with_reducible first | exact HB.out | apply below_alloc | apply pw_below_drewN | apply below_drew1) | exact HB.out)) hb); clear HB; have HB := n0_; clear n0_; (try clear hb); (try clear hb2); (try clear hk); (try clear hi)))
    go_meet
    case rel => exact ⟨_, (true), (by first | rfl | (simp; done) | (simp [*]; done)), H', ⟨by first | omega | exact Nat.le_refl _⟩, ⟨by repeat (first | (with_reducible first | exact HB.out | apply below_alloc | apply pw_below_drewN | apply below_drew1) | exact HB.out)⟩⟩
   ·rw [if_neg c7] at H
    have c7b0 : decide (a1 < 1) = false := decide_eq_false c7
    clear c7
    (first | rw [c7b0] | (simp only [i64_w, i32_w]; rw [c7b0]) | skip)
    by_cases c9 : a1 ≥ (a0.size : Int)
    ·rw [if_pos c9] at H
     have c9b0 : decide ((a0.size : Int) ≤ a1) = true := decide_eq_true c9
     clear c9
     have H' := Aside0.mk H
     clear H
     go_wp2_with (first | ((with_reducible refine gate_callee (f := 31) rfl ?_); refine goesL_ (some 13) rfl rfl Tryd.func31 (by kernel_rfl) rfl #[.string a0] rfl (by (try simp only [List.map_toArray, List.map_cons, List.map_nil]); first | done | rfl | (simp only [List.length_drop, List.length_take]; rfl)) ?_; (with_reducible refine (impl_WordValid.calls a0 true _ A5.out).mono ?_); rintro e w10 ⟨rfl, hb⟩; refine ⟨_, rfl, ?_⟩; have n0_ := Aside0.mk (below_step (by repeat (first | (with_reducible first | exact HB.out | apply below_alloc | apply pw_below_drewN | apply below_drew1) | exact HB.out)) hb); clear HB; have HB := n0_; clear n0_; (try clear hb); (try clear hb2); (try clear hk); (try clear hi)))
     go_meet
     case rel => exact ⟨_, (true), (by first | rfl | (simp; done) | (simp [*]; done)), H', ⟨by first | omega | exact Nat.le_refl _⟩, ⟨by repeat (first | (with_reducible first | exact HB.out | apply below_alloc | apply pw_below_drewN | apply below_drew1) | exact HB.out)⟩⟩
    ·rw [if_neg c9] at H
     have c9b0 : decide ((a0.size : Int) ≤ a1) = false := decide_eq_false c9
     clear c9
     by_cases c11 : a2 < 0
     ·rw [if_pos c11] at H
      have c11b0 : decide (a2 < 0) = true := decide_eq_true c11
      clear c11
      have H' := Aside0.mk H
      clear H
      go_wp2_with (first | ((with_reducible refine gate_callee (f := 31) rfl ?_); refine goesL_ (some 13) rfl rfl Tryd.func31 (by kernel_rfl) rfl #[.string a0] rfl (by (try simp only [List.map_toArray, List.map_cons, List.map_nil]); first | done | rfl | (simp only [List.length_drop, List.length_take]; rfl)) ?_; (with_reducible refine (impl_WordValid.calls a0 true _ A5.out).mono ?_); rintro e w12 ⟨rfl, hb⟩; refine ⟨_, rfl, ?_⟩; have n0_ := Aside0.mk (below_step (by repeat (first | (with_reducible first | exact HB.out | apply below_alloc | apply pw_below_drewN | apply below_drew1) | exact HB.out)) hb); clear HB; have HB := n0_; clear n0_; (try clear hb); (try clear hb2); (try clear hk); (try clear hi)))
      go_meet
      case rel => exact ⟨_, (true), (by first | rfl | (simp; done) | (simp [*]; done)), H', ⟨by first | omega | exact Nat.le_refl _⟩, ⟨by repeat (first | (with_reducible first | exact HB.out | apply below_alloc | apply pw_below_drewN | apply below_drew1) | exact HB.out)⟩⟩
     ·rw [if_neg c11] at H
      have c11b0 : decide (a2 < 0) = false := decide_eq_false c11
      clear c11
      have H' := Aside0.mk H
      clear H
      go_wp2_with (first | ((with_reducible refine gate_callee (f := 31) rfl ?_); refine goesL_ (some 13) rfl rfl Tryd.func31 (by kernel_rfl) rfl #[.string a0] rfl (by (try simp only [List.map_toArray, List.map_cons, List.map_nil]); first | done | rfl | (simp only [List.length_drop, List.length_take]; rfl)) ?_; (with_reducible refine (impl_WordValid.calls a0 true _ A5.out).mono ?_); rintro e w13 ⟨rfl, hb⟩; refine ⟨_, rfl, ?_⟩; have n0_ := Aside0.mk (below_step (by repeat (first | (with_reducible first | exact HB.out | apply below_alloc | apply pw_below_drewN | apply below_drew1) | exact HB.out)) hb); clear HB; have HB := n0_; clear n0_; (try clear hb); (try clear hb2); (try clear hk); (try clear hi)))
      go_meet
      case rel => exact ⟨_, (decide (a2 ≥ a1)), (by first | rfl | (simp; done) | (simp [*]; done)), H', ⟨by first | omega | exact Nat.le_refl _⟩, ⟨by repeat (first | (with_reducible first | exact HB.out | apply below_alloc | apply pw_below_drewN | apply below_drew1) | exact HB.out)⟩⟩
  ·replace c6 := Bool.eq_false_iff.mpr c6
   subst c6
   have H1 : (impl_WordCut.j0 k a0 a1 a2 true) = some (r1, r2) := by rw [if_neg (show ¬ (false = true) by decide)] at H; exact H
   clear H
   have H := H1
   clear H1
   have H' := Aside0.mk H
   clear H
   go_wp2_with (first | ((with_reducible refine gate_callee (f := 31) rfl ?_); refine goesL_ (some 13) rfl rfl Tryd.func31 (by kernel_rfl) rfl #[.string a0] rfl (by (try simp only [List.map_toArray, List.map_cons, List.map_nil]); first | done | rfl | (simp only [List.length_drop, List.length_take]; rfl)) ?_; (with_reducible refine (impl_WordValid.calls a0 false _ A5.out).mono ?_); rintro e w14 ⟨rfl, hb⟩; refine ⟨_, rfl, ?_⟩; have n0_ := Aside0.mk (below_step (by repeat (first | (with_reducible first | exact HB.out | apply below_alloc | apply pw_below_drewN | apply below_drew1) | exact HB.out)) hb); clear HB; have HB := n0_; clear n0_; (try clear hb); (try clear hb2); (try clear hk); (try clear hi)))
   go_meet
   case rel => exact ⟨_, (true), (by first | rfl | (simp; done) | (simp [*]; done)), H', ⟨by first | omega | exact Nat.le_refl _⟩, ⟨by repeat (first | (with_reducible first | exact HB.out | apply below_alloc | apply pw_below_drewN | apply below_drew1) | exact HB.out)⟩⟩
 case rest =>
  clear HC4
  try clear c1
  try clear c2
  try clear p2
  try clear c3
  try clear c6
  try clear c7
  try clear c7b0
  try clear c9
  try clear c9b0
  try clear c11
  try clear c11b0
  obtain ⟨kq, x33_3, rfl, HA, HJ3, HB⟩ := hcut
  cases kq with
  | zero => exact absurd HA.out (by simp [impl_WordCut.j0])
  | succ kj3 =>
   have H := HA.out
   clear HA
   simp only [impl_WordCut.j0] at H
   by_cases c15 : x33_3 = true
   ·subst c15
    have H1 : (some ((⟨#[]⟩ : ByteArray), false)) = some (r1, r2) := by rw [if_pos rfl] at H; exact H
    clear H
    have H := H1
    clear H1
    simp only [Option.some.injEq, Prod.mk.injEq] at H
    obtain ⟨rfl, rfl⟩ := H
    go_wp2
    go_ret2
    exact ⟨by first | rfl | (simp [errW_none, errW_some] <;> rfl) | (simp [*, errW_none, errW_some] <;> rfl), by repeat (first | (with_reducible first | exact HB.out | apply below_alloc | apply pw_below_drewN | apply below_drew1) | exact HB.out)⟩
   ·replace c15 := Bool.eq_false_iff.mpr c15
    subst c15
    have H1 : ((impl_partnersOf.f kj3 a0).bind fun t239 => (if 0 ≤ a2 then (if a2 < (t239.length : Int) then (if (rd t239 a2) < a1 then (some ((⟨#[]⟩ : ByteArray), false)) else (if a2 < (a0.size : Int) then (if 0 ≤ (wrap64 ((rd t239 a2) + 1)) then (if (wrap64 ((rd t239 a2) + 1)) ≤ (a0.size : Int) then ((some (([Go.bits .andNot .u8 (bt a0 a2) 32] : List Int) : List Int)).bind fun y243 => (if (a0.extract ((wrap64 ((rd t239 a2) + 1)) : Int).toNat a0.size).size + (strOfNums y243).size ≤ 9223372036854775807 then (if 0 ≤ a1 then (if a1 ≤ (rd t239 a2) then (if (rd t239 a2) ≤ (a0.size : Int) then (if ((a0.extract ((wrap64 ((rd t239 a2) + 1)) : Int).toNat a0.size) ++ (strOfNums y243)).size + (a0.extract (a1 : Int).toNat ((rd t239 a2) : Int).toNat).size ≤ 9223372036854775807 then (if 0 ≤ (rd t239 a2) then (if (rd t239 a2) < (a0.size : Int) then (if (bt a0 a2) = (bt a0 (rd t239 a2)) then ((impl_reversed.f kj3 (((a0.extract ((wrap64 ((rd t239 a2) + 1)) : Int).toNat a0.size) ++ (strOfNums y243)) ++ (a0.extract (a1 : Int).toNat ((rd t239 a2) : Int).toNat))).bind fun t246 => (if 0 ≤ (wrap64 (a2 + 1)) then (if (wrap64 (a2 + 1)) ≤ a1 then (if a1 ≤ (a0.size : Int) then ((some (([Go.bits .or .u8 (bt a0 a2) 32] : List Int) : List Int)).bind fun y247 => (if (a0.extract ((wrap64 (a2 + 1)) : Int).toNat (a1 : Int).toNat).size + (strOfNums y247).size ≤ 9223372036854775807 then (if a2 ≤ (a0.size : Int) then (if ((a0.extract ((wrap64 (a2 + 1)) : Int).toNat (a1 : Int).toNat) ++ (strOfNums y247)).size + (a0.extract 0 (a2 : Int).toNat).size ≤ 9223372036854775807 then (if (((a0.extract ((wrap64 (a2 + 1)) : Int).toNat (a1 : Int).toNat) ++ (strOfNums y247)) ++ (a0.extract 0 (a2 : Int).toNat)).size + t246.size ≤ 9223372036854775807 then (some (((((a0.extract ((wrap64 (a2 + 1)) : Int).toNat (a1 : Int).toNat) ++ (strOfNums y247)) ++ (a0.extract 0 (a2 : Int).toNat)) ++ t246), true)) else (none)) else (none)) else (none)) else (none))) else (none)) else (none)) else (none))) else (if 0 ≤ (wrap64 (a2 + 1)) then (if (wrap64 (a2 + 1)) ≤ a1 then (if a1 ≤ (a0.size : Int) then ((some (([Go.bits .or .u8 (bt a0 a2) 32] : List Int) : List Int)).bind fun y250 => (if (a0.extract ((wrap64 (a2 + 1)) : Int).toNat (a1 : Int).toNat).size + (strOfNums y250).size ≤ 9223372036854775807 then (if a2 ≤ (a0.size : Int) then (if ((a0.extract ((wrap64 (a2 + 1)) : Int).toNat (a1 : Int).toNat) ++ (strOfNums y250)).size + (a0.extract 0 (a2 : Int).toNat).size ≤ 9223372036854775807 then (if (((a0.extract ((wrap64 (a2 + 1)) : Int).toNat (a1 : Int).toNat) ++ (strOfNums y250)) ++ (a0.extract 0 (a2 : Int).toNat)).size + (((a0.extract ((wrap64 ((rd t239 a2) + 1)) : Int).toNat a0.size) ++ (strOfNums y243)) ++ (a0.extract (a1 : Int).toNat ((rd t239 a2) : Int).toNat)).size ≤ 9223372036854775807 then (some (((((a0.extract ((wrap64 (a2 + 1)) : Int).toNat (a1 : Int).toNat) ++ (strOfNums y250)) ++ (a0.extract 0 (a2 : Int).toNat)) ++ (((a0.extract ((wrap64 ((rd t239 a2) + 1)) : Int).toNat a0.size) ++ (strOfNums y243)) ++ (a0.extract (a1 : Int).toNat ((rd t239 a2) : Int).toNat))), true)) else (none)) else (none)) else (none)) else (none))) else (none)) else (none)) else (none))) else (none)) else (none)) else (none)) else (none)) else (none)) else (none)) else (none))) else (none)) else (none)) else (none))) else (none)) else (none))) = some (r1, r2) := by rw [if_neg (show ¬ (false = true) by decide)] at H; exact H
    clear H
    have H := H1
    clear H1
    replace H := Option.bind_eq_some_iff.mp H
    obtain ⟨t239, A160, H⟩ := H
    replace H : (if 0 ≤ a2 then (if a2 < (t239.length : Int) then (if (rd t239 a2) < a1 then (some ((⟨#[]⟩ : ByteArray), false)) else (if a2 < (a0.size : Int) then (if 0 ≤ (wrap64 ((rd t239 a2) + 1)) then (if (wrap64 ((rd t239 a2) + 1)) ≤ (a0.size : Int) then ((some (([Go.bits .andNot .u8 (bt a0 a2) 32] : List Int) : List Int)).bind fun y243 => (if (a0.extract ((wrap64 ((rd t239 a2) + 1)) : Int).toNat a0.size).size + (strOfNums y243).size ≤ 9223372036854775807 then (if 0 ≤ a1 then (if a1 ≤ (rd t239 a2) then (if (rd t239 a2) ≤ (a0.size : Int) then (if ((a0.extract ((wrap64 ((rd t239 a2) + 1)) : Int).toNat a0.size) ++ (strOfNums y243)).size + (a0.extract (a1 : Int).toNat ((rd t239 a2) : Int).toNat).size ≤ 9223372036854775807 then (if 0 ≤ (rd t239 a2) then (if (rd t239 a2) < (a0.size : Int) then (if (bt a0 a2) = (bt a0 (rd t239 a2)) then ((impl_reversed.f kj3 (((a0.extract ((wrap64 ((rd t239 a2) + 1)) : Int).toNat a0.size) ++ (strOfNums y243)) ++ (a0.extract (a1 : Int).toNat ((rd t239 a2) : Int).toNat))).bind fun t246 => (if 0 ≤ (wrap64 (a2 + 1)) then (if (wrap64 (a2 + 1)) ≤ a1 then (if a1 ≤ (a0.size : Int) then ((some (([Go.bits .or .u8 (bt a0 a2) 32] : List Int) : List Int)).bind fun y247 => (if (a0.extract ((wrap64 (a2 + 1)) : Int).toNat (a1 : Int).toNat).size + (strOfNums y247).size ≤ 9223372036854775807 then (if a2 ≤ (a0.size : Int) then (if ((a0.extract ((wrap64 (a2 + 1)) : Int).toNat (a1 : Int).toNat) ++ (strOfNums y247)).size + (a0.extract 0 (a2 : Int).toNat).size ≤ 9223372036854775807 then (if (((a0.extract ((wrap64 (a2 + 1)) : Int).toNat (a1 : Int).toNat) ++ (strOfNums y247)) ++ (a0.extract 0 (a2 : Int).toNat)).size + t246.size ≤ 9223372036854775807 then (some (((((a0.extract ((wrap64 (a2 + 1)) : Int).toNat (a1 : Int).toNat) ++ (strOfNums y247)) ++ (a0.extract 0 (a2 : Int).toNat)) ++ t246), true)) else (none)) else (none)) else (none)) else (none))) else (none)) else (none)) else (none))) else (if 0 ≤ (wrap64 (a2 + 1)) then (if (wrap64 (a2 + 1)) ≤ a1 then (if a1 ≤ (a0.size : Int) then ((some (([Go.bits .or .u8 (bt a0 a2) 32] : List Int) : List Int)).bind fun y250 => (if (a0.extract ((wrap64 (a2 + 1)) : Int).toNat (a1 : Int).toNat).size + (strOfNums y250).size ≤ 9223372036854775807 then (if a2 ≤ (a0.size : Int) then (if ((a0.extract ((wrap64 (a2 + 1)) : Int).toNat (a1 : Int).toNat) ++ (strOfNums y250)).size + (a0.extract 0 (a2 : Int).toNat).size ≤ 9223372036854775807 then (if (((a0.extract ((wrap64 (a2 + 1)) : Int).toNat (a1 : Int).toNat) ++ (strOfNums y250)) ++ (a0.extract 0 (a2 : Int).toNat)).size + (((a0.extract ((wrap64 ((rd t239 a2) + 1)) : Int).toNat a0.size) ++ (strOfNums y243)) ++ (a0.extract (a1 : Int).toNat ((rd t239 a2) : Int).toNat)).size ≤ 9223372036854775807 then (some (((((a0.extract ((wrap64 (a2 + 1)) : Int).toNat (a1 : Int).toNat) ++ (strOfNums y250)) ++ (a0.extract 0 (a2 : Int).toNat)) ++ (((a0.extract ((wrap64 ((rd t239 a2) + 1)) : Int).toNat a0.size) ++ (strOfNums y243)) ++ (a0.extract (a1 : Int).toNat ((rd t239 a2) : Int).toNat))), true)) else (none)) else (none)) else (none)) else (none))) else (none)) else (none)) else (none))) else (none)) else (none)) else (none)) else (none)) else (none)) else (none)) else (none))) else (none)) else (none)) else (none))) else (none)) else (none)) = some (r1, r2) := H
    have A16 := Aside0.mk A160
    clear A160
    by_cases c17 : 0 ≤ a2
    ·rw [if_pos c17] at H
     have c17b0 : decide (0 ≤ a2) = true := decide_eq_true c17
     clear c17
     by_cases c18 : a2 < (t239.length : Int)
     ·rw [if_pos c18] at H
      have c18b0 : decide (a2 < (t239.length : Int)) = true := decide_eq_true c18
      clear c18
      by_cases c19 : (rd t239 a2) < a1
      ·rw [if_pos c19] at H
       have c19b0 : decide ((rd t239 a2) < a1) = true := decide_eq_true c19
       clear c19
       simp only [Option.some.injEq, Prod.mk.injEq] at H
       obtain ⟨rfl, rfl⟩ := H
       go_wp2_with (first | ((with_reducible refine gate_callee (f := 48) rfl ?_); refine goesL_ (some 35) rfl rfl Tryd.func48 (by kernel_rfl) rfl #[.string a0] rfl (by (try simp only [List.map_toArray, List.map_cons, List.map_nil]); first | done | rfl | (simp only [List.length_drop, List.length_take]; rfl)) ?_; (with_reducible refine (impl_partnersOf.calls kj3 a0 t239 _ A16.out).mono ?_); rintro e w20 ⟨v240, rfl, ho0, hb⟩; refine ⟨_, rfl, ?_⟩; have n0_ := Aside0.mk (Kd.R_lower ho0 (below_size (by repeat (first | (with_reducible first | exact HB.out | apply below_alloc | apply pw_below_drewN | apply below_drew1) | exact HB.out)))); have n1_ := Aside0.mk (below_step (by repeat (first | (with_reducible first | exact HB.out | apply below_alloc | apply pw_below_drewN | apply below_drew1) | exact HB.out)) hb); clear HB; have HO241 := n0_; have HB := n1_; clear n0_ n1_; (try clear hb); (try clear hb2); (try clear hk); (try clear hi); (try clear ho0); obtain ⟨Ao21, co21, eo21⟩ := Kd.R_slice HO241.out; subst eo21; have p242 : 0 ≤ (a2 : Int) := of_decide_eq_true (by first | (with_reducible assumption) | assumption); have q242 : a2 < (t239.length : Int) := of_decide_eq_true (by first | (with_reducible assumption) | assumption); obtain ⟨ad242, e242, hx242_0⟩ := Kd.at_int (Kd.R_reads' HO241.out).2.2 a2 p242 q242; cases e242; replace p242 := eq_true p242; replace q242 := eq_true q242))
       go_ret2
       exact ⟨by first | rfl | (simp [errW_none, errW_some] <;> rfl) | (simp [*, errW_none, errW_some] <;> rfl), by repeat (first | (with_reducible first | exact HB.out | apply below_alloc | apply pw_below_drewN | apply below_drew1) | exact HB.out)⟩
      ·rw [if_neg c19] at H
       have c19b0 : decide ((rd t239 a2) < a1) = false := decide_eq_false c19
       clear c19
       by_cases c22 : a2 < (a0.size : Int)
       ·rw [if_pos c22] at H
        have c22b0 : decide (a2 < (a0.size : Int)) = true := decide_eq_true c22
        clear c22
        obtain ⟨ji25, hji25⟩ : ∃ j_ : Int, (wrap64 ((rd t239 a2) + 1)) = j_ := ⟨_, rfl⟩
        replace H : (if 0 ≤ (ji25) then (if (ji25) ≤ (a0.size : Int) then ((some (([Go.bits .andNot .u8 (bt a0 a2) 32] : List Int) : List Int)).bind fun y243 => (if (a0.extract ((ji25) : Int).toNat a0.size).size + (strOfNums y243).size ≤ 9223372036854775807 then (if 0 ≤ a1 then (if a1 ≤ (rd t239 a2) then (if (rd t239 a2) ≤ (a0.size : Int) then (if ((a0.extract ((ji25) : Int).toNat a0.size) ++ (strOfNums y243)).size + (a0.extract (a1 : Int).toNat ((rd t239 a2) : Int).toNat).size ≤ 9223372036854775807 then (if 0 ≤ (rd t239 a2) then (if (rd t239 a2) < (a0.size : Int) then (if (bt a0 a2) = (bt a0 (rd t239 a2)) then ((impl_reversed.f kj3 (((a0.extract ((ji25) : Int).toNat a0.size) ++ (strOfNums y243)) ++ (a0.extract (a1 : Int).toNat ((rd t239 a2) : Int).toNat))).bind fun t246 => (if 0 ≤ (wrap64 (a2 + 1)) then (if (wrap64 (a2 + 1)) ≤ a1 then (if a1 ≤ (a0.size : Int) then ((some (([Go.bits .or .u8 (bt a0 a2) 32] : List Int) : List Int)).bind fun y247 => (if (a0.extract ((wrap64 (a2 + 1)) : Int).toNat (a1 : Int).toNat).size + (strOfNums y247).size ≤ 9223372036854775807 then (if a2 ≤ (a0.size : Int) then (if ((a0.extract ((wrap64 (a2 + 1)) : Int).toNat (a1 : Int).toNat) ++ (strOfNums y247)).size + (a0.extract 0 (a2 : Int).toNat).size ≤ 9223372036854775807 then (if (((a0.extract ((wrap64 (a2 + 1)) : Int).toNat (a1 : Int).toNat) ++ (strOfNums y247)) ++ (a0.extract 0 (a2 : Int).toNat)).size + t246.size ≤ 9223372036854775807 then (some (((((a0.extract ((wrap64 (a2 + 1)) : Int).toNat (a1 : Int).toNat) ++ (strOfNums y247)) ++ (a0.extract 0 (a2 : Int).toNat)) ++ t246), true)) else (none)) else (none)) else (none)) else (none))) else (none)) else (none)) else (none))) else (if 0 ≤ (wrap64 (a2 + 1)) then (if (wrap64 (a2 + 1)) ≤ a1 then (if a1 ≤ (a0.size : Int) then ((some (([Go.bits .or .u8 (bt a0 a2) 32] : List Int) : List Int)).bind fun y250 => (if (a0.extract ((wrap64 (a2 + 1)) : Int).toNat (a1 : Int).toNat).size + (strOfNums y250).size ≤ 9223372036854775807 then (if a2 ≤ (a0.size : Int) then (if ((a0.extract ((wrap64 (a2 + 1)) : Int).toNat (a1 : Int).toNat) ++ (strOfNums y250)).size + (a0.extract 0 (a2 : Int).toNat).size ≤ 9223372036854775807 then (if (((a0.extract ((wrap64 (a2 + 1)) : Int).toNat (a1 : Int).toNat) ++ (strOfNums y250)) ++ (a0.extract 0 (a2 : Int).toNat)).size + (((a0.extract ((ji25) : Int).toNat a0.size) ++ (strOfNums y243)) ++ (a0.extract (a1 : Int).toNat ((rd t239 a2) : Int).toNat)).size ≤ 9223372036854775807 then (some (((((a0.extract ((wrap64 (a2 + 1)) : Int).toNat (a1 : Int).toNat) ++ (strOfNums y250)) ++ (a0.extract 0 (a2 : Int).toNat)) ++ (((a0.extract ((ji25) : Int).toNat a0.size) ++ (strOfNums y243)) ++ (a0.extract (a1 : Int).toNat ((rd t239 a2) : Int).toNat))), true)) else (none)) else (none)) else (none)) else (none))) else (none)) else (none)) else (none))) else (none)) else (none)) else (none)) else (none)) else (none)) else (none)) else (none))) else (none)) else (none)) = some (r1, r2) := by first | (rw [hji25] at H; exact H) | (simp only [hji25] at H ⊢; exact H)
        (try rw [hji25] at A16)
        have hji25w : (IntKind.i64.wrap ((rd t239 a2) + 1)) = ji25 := (i64_w _).trans hji25
        by_cases c26 : 0 ≤ (ji25)
        ·rw [if_pos c26] at H
         have c26b0 := eq_true c26
         have c26b1 : decide (0 ≤ (ji25)) = true := decide_eq_true c26
         clear c26
         by_cases c27 : (ji25) ≤ (a0.size : Int)
         ·rw [if_pos c27] at H
          have c27b0 := eq_true c27
          have c27b1 : decide ((ji25) ≤ (a0.size : Int)) = true := decide_eq_true c27
          clear c27
          obtain ⟨zs28, hzs28⟩ : ∃ j_ : ByteArray, (a0.extract ((ji25) : Int).toNat a0.size) = j_ := ⟨_, rfl⟩
          replace H : ((some (([Go.bits .andNot .u8 (bt a0 a2) 32] : List Int) : List Int)).bind fun y243 => (if zs28.size + (strOfNums y243).size ≤ 9223372036854775807 then (if 0 ≤ a1 then (if a1 ≤ (rd t239 a2) then (if (rd t239 a2) ≤ (a0.size : Int) then (if (zs28 ++ (strOfNums y243)).size + (a0.extract (a1 : Int).toNat ((rd t239 a2) : Int).toNat).size ≤ 9223372036854775807 then (if 0 ≤ (rd t239 a2) then (if (rd t239 a2) < (a0.size : Int) then (if (bt a0 a2) = (bt a0 (rd t239 a2)) then ((impl_reversed.f kj3 ((zs28 ++ (strOfNums y243)) ++ (a0.extract (a1 : Int).toNat ((rd t239 a2) : Int).toNat))).bind fun t246 => (if 0 ≤ (wrap64 (a2 + 1)) then (if (wrap64 (a2 + 1)) ≤ a1 then (if a1 ≤ (a0.size : Int) then ((some (([Go.bits .or .u8 (bt a0 a2) 32] : List Int) : List Int)).bind fun y247 => (if (a0.extract ((wrap64 (a2 + 1)) : Int).toNat (a1 : Int).toNat).size + (strOfNums y247).size ≤ 9223372036854775807 then (if a2 ≤ (a0.size : Int) then (if ((a0.extract ((wrap64 (a2 + 1)) : Int).toNat (a1 : Int).toNat) ++ (strOfNums y247)).size + (a0.extract 0 (a2 : Int).toNat).size ≤ 9223372036854775807 then (if (((a0.extract ((wrap64 (a2 + 1)) : Int).toNat (a1 : Int).toNat) ++ (strOfNums y247)) ++ (a0.extract 0 (a2 : Int).toNat)).size + t246.size ≤ 9223372036854775807 then (some (((((a0.extract ((wrap64 (a2 + 1)) : Int).toNat (a1 : Int).toNat) ++ (strOfNums y247)) ++ (a0.extract 0 (a2 : Int).toNat)) ++ t246), true)) else (none)) else (none)) else (none)) else (none))) else (none)) else (none)) else (none))) else (if 0 ≤ (wrap64 (a2 + 1)) then (if (wrap64 (a2 + 1)) ≤ a1 then (if a1 ≤ (a0.size : Int) then ((some (([Go.bits .or .u8 (bt a0 a2) 32] : List Int) : List Int)).bind fun y250 => (if (a0.extract ((wrap64 (a2 + 1)) : Int).toNat (a1 : Int).toNat).size + (strOfNums y250).size ≤ 9223372036854775807 then (if a2 ≤ (a0.size : Int) then (if ((a0.extract ((wrap64 (a2 + 1)) : Int).toNat (a1 : Int).toNat) ++ (strOfNums y250)).size + (a0.extract 0 (a2 : Int).toNat).size ≤ 9223372036854775807 then (if (((a0.extract ((wrap64 (a2 + 1)) : Int).toNat (a1 : Int).toNat) ++ (strOfNums y250)) ++ (a0.extract 0 (a2 : Int).toNat)).size + ((zs28 ++ (strOfNums y243)) ++ (a0.extract (a1 : Int).toNat ((rd t239 a2) : Int).toNat)).size ≤ 9223372036854775807 then (some (((((a0.extract ((wrap64 (a2 + 1)) : Int).toNat (a1 : Int).toNat) ++ (strOfNums y250)) ++ (a0.extract 0 (a2 : Int).toNat)) ++ ((zs28 ++ (strOfNums y243)) ++ (a0.extract (a1 : Int).toNat ((rd t239 a2) : Int).toNat))), true)) else (none)) else (none)) else (none)) else (none))) else (none)) else (none)) else (none))) else (none)) else (none)) else (none)) else (none)) else (none)) else (none)) else (none))) = some (r1, r2) := by first | (rw [hzs28] at H; exact H) | (simp only [hzs28] at H ⊢; exact H) | exact H
          (try rw [hzs28] at A16)
          obtain ⟨y243, hy243⟩ : ∃ y_ : List Int, y_ = (([Go.bits .andNot .u8 (bt a0 a2) 32] : List Int)) := ⟨_, rfl⟩
          replace H : (if zs28.size + (strOfNums y243).size ≤ 9223372036854775807 then (if 0 ≤ a1 then (if a1 ≤ (rd t239 a2) then (if (rd t239 a2) ≤ (a0.size : Int) then (if (zs28 ++ (strOfNums y243)).size + (a0.extract (a1 : Int).toNat ((rd t239 a2) : Int).toNat).size ≤ 9223372036854775807 then (if 0 ≤ (rd t239 a2) then (if (rd t239 a2) < (a0.size : Int) then (if (bt a0 a2) = (bt a0 (rd t239 a2)) then ((impl_reversed.f kj3 ((zs28 ++ (strOfNums y243)) ++ (a0.extract (a1 : Int).toNat ((rd t239 a2) : Int).toNat))).bind fun t246 => (if 0 ≤ (wrap64 (a2 + 1)) then (if (wrap64 (a2 + 1)) ≤ a1 then (if a1 ≤ (a0.size : Int) then ((some (([Go.bits .or .u8 (bt a0 a2) 32] : List Int) : List Int)).bind fun y247 => (if (a0.extract ((wrap64 (a2 + 1)) : Int).toNat (a1 : Int).toNat).size + (strOfNums y247).size ≤ 9223372036854775807 then (if a2 ≤ (a0.size : Int) then (if ((a0.extract ((wrap64 (a2 + 1)) : Int).toNat (a1 : Int).toNat) ++ (strOfNums y247)).size + (a0.extract 0 (a2 : Int).toNat).size ≤ 9223372036854775807 then (if (((a0.extract ((wrap64 (a2 + 1)) : Int).toNat (a1 : Int).toNat) ++ (strOfNums y247)) ++ (a0.extract 0 (a2 : Int).toNat)).size + t246.size ≤ 9223372036854775807 then (some (((((a0.extract ((wrap64 (a2 + 1)) : Int).toNat (a1 : Int).toNat) ++ (strOfNums y247)) ++ (a0.extract 0 (a2 : Int).toNat)) ++ t246), true)) else (none)) else (none)) else (none)) else (none))) else (none)) else (none)) else (none))) else (if 0 ≤ (wrap64 (a2 + 1)) then (if (wrap64 (a2 + 1)) ≤ a1 then (if a1 ≤ (a0.size : Int) then ((some (([Go.bits .or .u8 (bt a0 a2) 32] : List Int) : List Int)).bind fun y250 => (if (a0.extract ((wrap64 (a2 + 1)) : Int).toNat (a1 : Int).toNat).size + (strOfNums y250).size ≤ 9223372036854775807 then (if a2 ≤ (a0.size : Int) then (if ((a0.extract ((wrap64 (a2 + 1)) : Int).toNat (a1 : Int).toNat) ++ (strOfNums y250)).size + (a0.extract 0 (a2 : Int).toNat).size ≤ 9223372036854775807 then (if (((a0.extract ((wrap64 (a2 + 1)) : Int).toNat (a1 : Int).toNat) ++ (strOfNums y250)) ++ (a0.extract 0 (a2 : Int).toNat)).size + ((zs28 ++ (strOfNums y243)) ++ (a0.extract (a1 : Int).toNat ((rd t239 a2) : Int).toNat)).size ≤ 9223372036854775807 then (some (((((a0.extract ((wrap64 (a2 + 1)) : Int).toNat (a1 : Int).toNat) ++ (strOfNums y250)) ++ (a0.extract 0 (a2 : Int).toNat)) ++ ((zs28 ++ (strOfNums y243)) ++ (a0.extract (a1 : Int).toNat ((rd t239 a2) : Int).toNat))), true)) else (none)) else (none)) else (none)) else (none))) else (none)) else (none)) else (none))) else (none)) else (none)) else (none)) else (none)) else (none)) else (none)) else (none)) = some (r1, r2) := by first | (rw [hy243]; with_reducible exact H) | (have H2_ := (Option.bind_some _ _).symm.trans H; rw [hy243]; with_reducible exact H2_) | (have H2_ := (Option.bind_some _ _).symm.trans H; with_reducible exact H2_) | with_reducible exact H | (rw [hy243]; exact H) | exact H
          have Ny243 := Aside0.mk hy243
          clear hy243
          by_cases c29 : zs28.size + (strOfNums y243).size ≤ 9223372036854775807
          ·rw [if_pos c29] at H
           have c29b0 := eq_true c29
           have c29b1 : decide (zs28.size + (strOfNums y243).size ≤ 9223372036854775807) = true := decide_eq_true c29
           try have c29b2 : (9223372036854775807 < zs28.size + (strOfNums y243).size) = False := eq_false (Nat.not_lt.2 c29)
           obtain ⟨zs30, hzs30⟩ : ∃ j_ : ByteArray, (zs28 ++ (strOfNums y243)) = j_ := ⟨_, rfl⟩
           replace H : (if 0 ≤ a1 then (if a1 ≤ (rd t239 a2) then (if (rd t239 a2) ≤ (a0.size : Int) then (if zs30.size + (a0.extract (a1 : Int).toNat ((rd t239 a2) : Int).toNat).size ≤ 9223372036854775807 then (if 0 ≤ (rd t239 a2) then (if (rd t239 a2) < (a0.size : Int) then (if (bt a0 a2) = (bt a0 (rd t239 a2)) then ((impl_reversed.f kj3 (zs30 ++ (a0.extract (a1 : Int).toNat ((rd t239 a2) : Int).toNat))).bind fun t246 => (if 0 ≤ (wrap64 (a2 + 1)) then (if (wrap64 (a2 + 1)) ≤ a1 then (if a1 ≤ (a0.size : Int) then ((some (([Go.bits .or .u8 (bt a0 a2) 32] : List Int) : List Int)).bind fun y247 => (if (a0.extract ((wrap64 (a2 + 1)) : Int).toNat (a1 : Int).toNat).size + (strOfNums y247).size ≤ 9223372036854775807 then (if a2 ≤ (a0.size : Int) then (if ((a0.extract ((wrap64 (a2 + 1)) : Int).toNat (a1 : Int).toNat) ++ (strOfNums y247)).size + (a0.extract 0 (a2 : Int).toNat).size ≤ 9223372036854775807 then (if (((a0.extract ((wrap64 (a2 + 1)) : Int).toNat (a1 : Int).toNat) ++ (strOfNums y247)) ++ (a0.extract 0 (a2 : Int).toNat)).size + t246.size ≤ 9223372036854775807 then (some (((((a0.extract ((wrap64 (a2 + 1)) : Int).toNat (a1 : Int).toNat) ++ (strOfNums y247)) ++ (a0.extract 0 (a2 : Int).toNat)) ++ t246), true)) else (none)) else (none)) else (none)) else (none))) else (none)) else (none)) else (none))) else (if 0 ≤ (wrap64 (a2 + 1)) then (if (wrap64 (a2 + 1)) ≤ a1 then (if a1 ≤ (a0.size : Int) then ((some (([Go.bits .or .u8 (bt a0 a2) 32] : List Int) : List Int)).bind fun y250 => (if (a0.extract ((wrap64 (a2 + 1)) : Int).toNat (a1 : Int).toNat).size + (strOfNums y250).size ≤ 9223372036854775807 then (if a2 ≤ (a0.size : Int) then (if ((a0.extract ((wrap64 (a2 + 1)) : Int).toNat (a1 : Int).toNat) ++ (strOfNums y250)).size + (a0.extract 0 (a2 : Int).toNat).size ≤ 9223372036854775807 then (if (((a0.extract ((wrap64 (a2 + 1)) : Int).toNat (a1 : Int).toNat) ++ (strOfNums y250)) ++ (a0.extract 0 (a2 : Int).toNat)).size + (zs30 ++ (a0.extract (a1 : Int).toNat ((rd t239 a2) : Int).toNat)).size ≤ 9223372036854775807 then (some (((((a0.extract ((wrap64 (a2 + 1)) : Int).toNat (a1 : Int).toNat) ++ (strOfNums y250)) ++ (a0.extract 0 (a2 : Int).toNat)) ++ (zs30 ++ (a0.extract (a1 : Int).toNat ((rd t239 a2) : Int).toNat))), true)) else (none)) else (none)) else (none)) else (none))) else (none)) else (none)) else (none))) else (none)) else (none)) else (none)) else (none)) else (none)) else (none)) = some (r1, r2) := by first | (rw [hzs30] at H; exact H) | (simp only [hzs30] at H ⊢; exact H) | exact H
           (try rw [hzs30] at A16)
           by_cases c31 : 0 ≤ a1
           ·rw [if_pos c31] at H
            have c31b0 := eq_true c31
            have c31b1 : decide (0 ≤ a1) = true := decide_eq_true c31
            clear c31
            by_cases c32 : a1 ≤ (rd t239 a2)
            ·rw [if_pos c32] at H
             have c32b0 := eq_true c32
             have c32b1 : decide (a1 ≤ (rd t239 a2)) = true := decide_eq_true c32
             clear c32
             by_cases c33 : (rd t239 a2) ≤ (a0.size : Int)
             ·rw [if_pos c33] at H
              have c33b0 := eq_true c33
              have c33b1 : decide ((rd t239 a2) ≤ (a0.size : Int)) = true := decide_eq_true c33
              clear c33
              obtain ⟨zs34, hzs34⟩ : ∃ j_ : ByteArray, (a0.extract (a1 : Int).toNat ((rd t239 a2) : Int).toNat) = j_ := ⟨_, rfl⟩
              replace H : (if zs30.size + zs34.size ≤ 9223372036854775807 then (if 0 ≤ (rd t239 a2) then (if (rd t239 a2) < (a0.size : Int) then (if (bt a0 a2) = (bt a0 (rd t239 a2)) then ((impl_reversed.f kj3 (zs30 ++ zs34)).bind fun t246 => (if 0 ≤ (wrap64 (a2 + 1)) then (if (wrap64 (a2 + 1)) ≤ a1 then (if a1 ≤ (a0.size : Int) then ((some (([Go.bits .or .u8 (bt a0 a2) 32] : List Int) : List Int)).bind fun y247 => (if (a0.extract ((wrap64 (a2 + 1)) : Int).toNat (a1 : Int).toNat).size + (strOfNums y247).size ≤ 9223372036854775807 then (if a2 ≤ (a0.size : Int) then (if ((a0.extract ((wrap64 (a2 + 1)) : Int).toNat (a1 : Int).toNat) ++ (strOfNums y247)).size + (a0.extract 0 (a2 : Int).toNat).size ≤ 9223372036854775807 then (if (((a0.extract ((wrap64 (a2 + 1)) : Int).toNat (a1 : Int).toNat) ++ (strOfNums y247)) ++ (a0.extract 0 (a2 : Int).toNat)).size + t246.size ≤ 9223372036854775807 then (some (((((a0.extract ((wrap64 (a2 + 1)) : Int).toNat (a1 : Int).toNat) ++ (strOfNums y247)) ++ (a0.extract 0 (a2 : Int).toNat)) ++ t246), true)) else (none)) else (none)) else (none)) else (none))) else (none)) else (none)) else (none))) else (if 0 ≤ (wrap64 (a2 + 1)) then (if (wrap64 (a2 + 1)) ≤ a1 then (if a1 ≤ (a0.size : Int) then ((some (([Go.bits .or .u8 (bt a0 a2) 32] : List Int) : List Int)).bind fun y250 => (if (a0.extract ((wrap64 (a2 + 1)) : Int).toNat (a1 : Int).toNat).size + (strOfNums y250).size ≤ 9223372036854775807 then (if a2 ≤ (a0.size : Int) then (if ((a0.extract ((wrap64 (a2 + 1)) : Int).toNat (a1 : Int).toNat) ++ (strOfNums y250)).size + (a0.extract 0 (a2 : Int).toNat).size ≤ 9223372036854775807 then (if (((a0.extract ((wrap64 (a2 + 1)) : Int).toNat (a1 : Int).toNat) ++ (strOfNums y250)) ++ (a0.extract 0 (a2 : Int).toNat)).size + (zs30 ++ zs34).size ≤ 9223372036854775807 then (some (((((a0.extract ((wrap64 (a2 + 1)) : Int).toNat (a1 : Int).toNat) ++ (strOfNums y250)) ++ (a0.extract 0 (a2 : Int).toNat)) ++ (zs30 ++ zs34)), true)) else (none)) else (none)) else (none)) else (none))) else (none)) else (none)) else (none))) else (none)) else (none)) else (none)) = some (r1, r2) := by first | (rw [hzs34] at H; exact H) | (simp only [hzs34] at H ⊢; exact H) | exact H
              (try rw [hzs34] at A16)
              by_cases c35 : zs30.size + zs34.size ≤ 9223372036854775807
              ·rw [if_pos c35] at H
               have c35b0 := eq_true c35
               have c35b1 : decide (zs30.size + zs34.size ≤ 9223372036854775807) = true := decide_eq_true c35
               try have c35b2 : (9223372036854775807 < zs30.size + zs34.size) = False := eq_false (Nat.not_lt.2 c35)
               obtain ⟨zs36, hzs36⟩ : ∃ j_ : ByteArray, (zs30 ++ zs34) = j_ := ⟨_, rfl⟩
               replace H : (if 0 ≤ (rd t239 a2) then (if (rd t239 a2) < (a0.size : Int) then (if (bt a0 a2) = (bt a0 (rd t239 a2)) then ((impl_reversed.f kj3 zs36).bind fun t246 => (if 0 ≤ (wrap64 (a2 + 1)) then (if (wrap64 (a2 + 1)) ≤ a1 then (if a1 ≤ (a0.size : Int) then ((some (([Go.bits .or .u8 (bt a0 a2) 32] : List Int) : List Int)).bind fun y247 => (if (a0.extract ((wrap64 (a2 + 1)) : Int).toNat (a1 : Int).toNat).size + (strOfNums y247).size ≤ 9223372036854775807 then (if a2 ≤ (a0.size : Int) then (if ((a0.extract ((wrap64 (a2 + 1)) : Int).toNat (a1 : Int).toNat) ++ (strOfNums y247)).size + (a0.extract 0 (a2 : Int).toNat).size ≤ 9223372036854775807 then (if (((a0.extract ((wrap64 (a2 + 1)) : Int).toNat (a1 : Int).toNat) ++ (strOfNums y247)) ++ (a0.extract 0 (a2 : Int).toNat)).size + t246.size ≤ 9223372036854775807 then (some (((((a0.extract ((wrap64 (a2 + 1)) : Int).toNat (a1 : Int).toNat) ++ (strOfNums y247)) ++ (a0.extract 0 (a2 : Int).toNat)) ++ t246), true)) else (none)) else (none)) else (none)) else (none))) else (none)) else (none)) else (none))) else (if 0 ≤ (wrap64 (a2 + 1)) then (if (wrap64 (a2 + 1)) ≤ a1 then (if a1 ≤ (a0.size : Int) then ((some (([Go.bits .or .u8 (bt a0 a2) 32] : List Int) : List Int)).bind fun y250 => (if (a0.extract ((wrap64 (a2 + 1)) : Int).toNat (a1 : Int).toNat).size + (strOfNums y250).size ≤ 9223372036854775807 then (if a2 ≤ (a0.size : Int) then (if ((a0.extract ((wrap64 (a2 + 1)) : Int).toNat (a1 : Int).toNat) ++ (strOfNums y250)).size + (a0.extract 0 (a2 : Int).toNat).size ≤ 9223372036854775807 then (if (((a0.extract ((wrap64 (a2 + 1)) : Int).toNat (a1 : Int).toNat) ++ (strOfNums y250)) ++ (a0.extract 0 (a2 : Int).toNat)).size + zs36.size ≤ 9223372036854775807 then (some (((((a0.extract ((wrap64 (a2 + 1)) : Int).toNat (a1 : Int).toNat) ++ (strOfNums y250)) ++ (a0.extract 0 (a2 : Int).toNat)) ++ zs36), true)) else (none)) else (none)) else (none)) else (none))) else (none)) else (none)) else (none))) else (none)) else (none)) = some (r1, r2) := by first | (rw [hzs36] at H; exact H) | (simp only [hzs36] at H ⊢; exact H) | exact H
               (try rw [hzs36] at A16)
               by_cases c38 : 0 ≤ (rd t239 a2)
               ·rw [if_pos c38] at H
                have c38b0 : decide (0 ≤ (rd t239 a2)) = true := decide_eq_true c38
                clear c38
                by_cases c39 : (rd t239 a2) < (a0.size : Int)
                ·rw [if_pos c39] at H
                 have c39b0 : decide ((rd t239 a2) < (a0.size : Int)) = true := decide_eq_true c39
                 clear c39
                 by_cases c41 : (bt a0 a2) = (bt a0 (rd t239 a2))
                 ·rw [if_pos c41] at H
                  have c41b0 : ((bt a0 a2) == (bt a0 (rd t239 a2))) = true := beq_iff_eq.mpr c41
                  have c41b1 : ((bt a0 a2) != (bt a0 (rd t239 a2))) = false := bne_eq_false_iff_eq.mpr c41
                  clear c41
                  replace H := Option.bind_eq_some_iff.mp H
                  obtain ⟨t246, A420, H⟩ := H
                  replace H : (if 0 ≤ (wrap64 (a2 + 1)) then (if (wrap64 (a2 + 1)) ≤ a1 then (if a1 ≤ (a0.size : Int) then ((some (([Go.bits .or .u8 (bt a0 a2) 32] : List Int) : List Int)).bind fun y247 => (if (a0.extract ((wrap64 (a2 + 1)) : Int).toNat (a1 : Int).toNat).size + (strOfNums y247).size ≤ 9223372036854775807 then (if a2 ≤ (a0.size : Int) then (if ((a0.extract ((wrap64 (a2 + 1)) : Int).toNat (a1 : Int).toNat) ++ (strOfNums y247)).size + (a0.extract 0 (a2 : Int).toNat).size ≤ 9223372036854775807 then (if (((a0.extract ((wrap64 (a2 + 1)) : Int).toNat (a1 : Int).toNat) ++ (strOfNums y247)) ++ (a0.extract 0 (a2 : Int).toNat)).size + t246.size ≤ 9223372036854775807 then (some (((((a0.extract ((wrap64 (a2 + 1)) : Int).toNat (a1 : Int).toNat) ++ (strOfNums y247)) ++ (a0.extract 0 (a2 : Int).toNat)) ++ t246), true)) else (none)) else (none)) else (none)) else (none))) else (none)) else (none)) else (none)) = some (r1, r2) := H
                  have A42 := Aside0.mk A420
                  clear A420
                  obtain ⟨ji43, hji43⟩ : ∃ j_ : Int, (wrap64 (a2 + 1)) = j_ := ⟨_, rfl⟩
                  replace H : (if 0 ≤ (ji43) then (if (ji43) ≤ a1 then (if a1 ≤ (a0.size : Int) then ((some (([Go.bits .or .u8 (bt a0 a2) 32] : List Int) : List Int)).bind fun y247 => (if (a0.extract ((ji43) : Int).toNat (a1 : Int).toNat).size + (strOfNums y247).size ≤ 9223372036854775807 then (if a2 ≤ (a0.size : Int) then (if ((a0.extract ((ji43) : Int).toNat (a1 : Int).toNat) ++ (strOfNums y247)).size + (a0.extract 0 (a2 : Int).toNat).size ≤ 9223372036854775807 then (if (((a0.extract ((ji43) : Int).toNat (a1 : Int).toNat) ++ (strOfNums y247)) ++ (a0.extract 0 (a2 : Int).toNat)).size + t246.size ≤ 9223372036854775807 then (some (((((a0.extract ((ji43) : Int).toNat (a1 : Int).toNat) ++ (strOfNums y247)) ++ (a0.extract 0 (a2 : Int).toNat)) ++ t246), true)) else (none)) else (none)) else (none)) else (none))) else (none)) else (none)) else (none)) = some (r1, r2) := by first | (rw [hji43] at H; exact H) | (simp only [hji43] at H ⊢; exact H)
                  (try rw [hji43] at A16)
                  (try rw [hji43] at A42)
                  have hji43w : (IntKind.i64.wrap (a2 + 1)) = ji43 := (i64_w _).trans hji43
                  by_cases c44 : 0 ≤ (ji43)
                  ·rw [if_pos c44] at H
                   have c44b0 := eq_true c44
                   have c44b1 : decide (0 ≤ (ji43)) = true := decide_eq_true c44
                   clear c44
                   by_cases c45 : (ji43) ≤ a1
                   ·rw [if_pos c45] at H
                    have c45b0 := eq_true c45
                    have c45b1 : decide ((ji43) ≤ a1) = true := decide_eq_true c45
                    clear c45
                    by_cases c46 : a1 ≤ (a0.size : Int)
                    ·rw [if_pos c46] at H
                     have c46b0 := eq_true c46
                     have c46b1 : decide (a1 ≤ (a0.size : Int)) = true := decide_eq_true c46
                     clear c46
                     obtain ⟨zs47, hzs47⟩ : ∃ j_ : ByteArray, (a0.extract ((ji43) : Int).toNat (a1 : Int).toNat) = j_ := ⟨_, rfl⟩
                     replace H : ((some (([Go.bits .or .u8 (bt a0 a2) 32] : List Int) : List Int)).bind fun y247 => (if zs47.size + (strOfNums y247).size ≤ 9223372036854775807 then (if a2 ≤ (a0.size : Int) then (if (zs47 ++ (strOfNums y247)).size + (a0.extract 0 (a2 : Int).toNat).size ≤ 9223372036854775807 then (if ((zs47 ++ (strOfNums y247)) ++ (a0.extract 0 (a2 : Int).toNat)).size + t246.size ≤ 9223372036854775807 then (some ((((zs47 ++ (strOfNums y247)) ++ (a0.extract 0 (a2 : Int).toNat)) ++ t246), true)) else (none)) else (none)) else (none)) else (none))) = some (r1, r2) := by first | (rw [hzs47] at H; exact H) | (simp only [hzs47] at H ⊢; exact H) | exact H
                     (try rw [hzs47] at A16)
                     (try rw [hzs47] at A42)
                     obtain ⟨y247, hy247⟩ : ∃ y_ : List Int, y_ = (([Go.bits .or .u8 (bt a0 a2) 32] : List Int)) := ⟨_, rfl⟩
                     replace H : (if zs47.size + (strOfNums y247).size ≤ 9223372036854775807 then (if a2 ≤ (a0.size : Int) then (if (zs47 ++ (strOfNums y247)).size + (a0.extract 0 (a2 : Int).toNat).size ≤ 9223372036854775807 then (if ((zs47 ++ (strOfNums y247)) ++ (a0.extract 0 (a2 : Int).toNat)).size + t246.size ≤ 9223372036854775807 then (some ((((zs47 ++ (strOfNums y247)) ++ (a0.extract 0 (a2 : Int).toNat)) ++ t246), true)) else (none)) else (none)) else (none)) else (none)) = some (r1, r2) := by first | (rw [hy247]; with_reducible exact H) | (have H2_ := (Option.bind_some _ _).symm.trans H; rw [hy247]; with_reducible exact H2_) | (have H2_ := (Option.bind_some _ _).symm.trans H; with_reducible exact H2_) | with_reducible exact H | (rw [hy247]; exact H) | exact H
                     have Ny247 := Aside0.mk hy247
                     clear hy247
                     by_cases c48 : zs47.size + (strOfNums y247).size ≤ 9223372036854775807
                     ·rw [if_pos c48] at H
                      have c48b0 := eq_true c48
                      have c48b1 : decide (zs47.size + (strOfNums y247).size ≤ 9223372036854775807) = true := decide_eq_true c48
                      try have c48b2 : (9223372036854775807 < zs47.size + (strOfNums y247).size) = False := eq_false (Nat.not_lt.2 c48)
                      obtain ⟨zs49, hzs49⟩ : ∃ j_ : ByteArray, (zs47 ++ (strOfNums y247)) = j_ := ⟨_, rfl⟩
                      replace H : (if a2 ≤ (a0.size : Int) then (if zs49.size + (a0.extract 0 (a2 : Int).toNat).size ≤ 9223372036854775807 then (if (zs49 ++ (a0.extract 0 (a2 : Int).toNat)).size + t246.size ≤ 9223372036854775807 then (some (((zs49 ++ (a0.extract 0 (a2 : Int).toNat)) ++ t246), true)) else (none)) else (none)) else (none)) = some (r1, r2) := by first | (rw [hzs49] at H; exact H) | (simp only [hzs49] at H ⊢; exact H) | exact H
                      (try rw [hzs49] at A16)
                      (try rw [hzs49] at A42)
                      have c50b0 := eq_true (of_decide_eq_true (by first | (with_reducible assumption) | assumption) : 0 ≤ a2)
                      by_cases c51 : a2 ≤ (a0.size : Int)
                      ·rw [if_pos c51] at H
                       have c51b0 := eq_true c51
                       have c51b1 : decide (a2 ≤ (a0.size : Int)) = true := decide_eq_true c51
                       clear c51
                       obtain ⟨zs52, hzs52⟩ : ∃ j_ : ByteArray, (a0.extract 0 (a2 : Int).toNat) = j_ := ⟨_, rfl⟩
                       replace H : (if zs49.size + zs52.size ≤ 9223372036854775807 then (if (zs49 ++ zs52).size + t246.size ≤ 9223372036854775807 then (some (((zs49 ++ zs52) ++ t246), true)) else (none)) else (none)) = some (r1, r2) := by first | (rw [hzs52] at H; exact H) | (simp only [hzs52] at H ⊢; exact H) | exact H
                       (try rw [hzs52] at A16)
                       (try rw [hzs52] at A42)
                       by_cases c53 : zs49.size + zs52.size ≤ 9223372036854775807
                       ·rw [if_pos c53] at H
                        have c53b0 := eq_true c53
                        have c53b1 : decide (zs49.size + zs52.size ≤ 9223372036854775807) = true := decide_eq_true c53
                        try have c53b2 : (9223372036854775807 < zs49.size + zs52.size) = False := eq_false (Nat.not_lt.2 c53)
                        obtain ⟨zs54, hzs54⟩ : ∃ j_ : ByteArray, (zs49 ++ zs52) = j_ := ⟨_, rfl⟩
                        replace H : (if zs54.size + t246.size ≤ 9223372036854775807 then (some ((zs54 ++ t246), true)) else (none)) = some (r1, r2) := by first | (rw [hzs54] at H; exact H) | (simp only [hzs54] at H ⊢; exact H) | exact H
                        (try rw [hzs54] at A16)
                        (try rw [hzs54] at A42)
                        by_cases c55 : zs54.size + t246.size ≤ 9223372036854775807
                        ·rw [if_pos c55] at H
                         have c55b0 := eq_true c55
                         have c55b1 : decide (zs54.size + t246.size ≤ 9223372036854775807) = true := decide_eq_true c55
                         try have c55b2 : (9223372036854775807 < zs54.size + t246.size) = False := eq_false (Nat.not_lt.2 c55)
                         obtain ⟨zs56, hzs56⟩ : ∃ j_ : ByteArray, (zs54 ++ t246) = j_ := ⟨_, rfl⟩
                         replace H : (some (zs56, true)) = some (r1, r2) := by first | (rw [hzs56] at H; exact H) | (simp only [hzs56] at H ⊢; exact H) | exact H
                         (try rw [hzs56] at A16)
                         (try rw [hzs56] at A42)
                         simp only [Option.some.injEq, Prod.mk.injEq] at H
                         obtain ⟨rfl, rfl⟩ := H
                         try go_wp2_with (first | ((with_reducible refine gate_callee (f := 48) rfl ?_); refine goesL_ (some 35) rfl rfl Tryd.func48 (by kernel_rfl) rfl #[.string a0] rfl (by (try simp only [List.map_toArray, List.map_cons, List.map_nil]); first | done | rfl | (simp only [List.length_drop, List.length_take]; rfl)) ?_; (with_reducible refine (impl_partnersOf.calls kj3 a0 t239 _ A16.out).mono ?_); rintro e w57 ⟨v240, rfl, ho0, hb⟩; refine ⟨_, rfl, ?_⟩; have n0_ := Aside0.mk (Kd.R_lower ho0 (below_size (by repeat (first | (with_reducible first | exact HB.out | apply below_alloc | apply pw_below_drewN | apply below_drew1) | exact HB.out)))); have n1_ := Aside0.mk (below_step (by repeat (first | (with_reducible first | exact HB.out | apply below_alloc | apply pw_below_drewN | apply below_drew1) | exact HB.out)) hb); clear HB; have HO241 := n0_; have HB := n1_; clear n0_ n1_; (try clear hb); (try clear hb2); (try clear hk); (try clear hi); (try clear ho0); obtain ⟨Ao58, co58, eo58⟩ := Kd.R_slice HO241.out; subst eo58; have p242 : 0 ≤ (a2 : Int) := of_decide_eq_true (by first | (with_reducible assumption) | assumption); have q242 : a2 < (t239.length : Int) := of_decide_eq_true (by first | (with_reducible assumption) | assumption); obtain ⟨ad242, e242, hx242_0⟩ := Kd.at_int (Kd.R_reads' HO241.out).2.2 a2 p242 q242; cases e242; replace p242 := eq_true p242; replace q242 := eq_true q242))
                         have n0_ := Aside0.mk (Kd.R_drew HO241.out)
                         have n1_ := Aside0.mk (below_drew1 HB.out)
                         clear HO241
                         clear HB
                         have HO241 := n0_
                         have HB := n1_
                         clear n0_ n1_
                         have p23 : 0 ≤ (a2 : Int) := of_decide_eq_true (by first | (with_reducible assumption) | assumption)
                         have q23 : a2 < (a0.size : Int) := of_decide_eq_true (by first | (with_reducible assumption) | assumption)
                         have hx23 := bt_at a0 a2
                         replace p23 := eq_true p23
                         replace q23 := eq_true q23
                         have p24 : 0 ≤ (a2 : Int) := of_decide_eq_true (by first | (with_reducible assumption) | assumption)
                         have q24 : a2 < (a0.size : Int) := of_decide_eq_true (by first | (with_reducible assumption) | assumption)
                         have hx24 := bt_at a0 a2
                         replace p24 := eq_true p24
                         replace q24 := eq_true q24
                         refine start_ (n := 10) (S := fun w' => True) (ds := []) #[false, false, false, false, false, false, false, false, false, false] (by kernel_rfl) rfl rfl trivial (fun hHeld => ?_); refine with_tabW impl_WordCut.tab6 impl_WordCut.bits6 (fun HT_ HW_ => ?_)
                         generalize w57.drew = w59 at HO241 HB hHeld ⊢
                         refine pure_ (i := 0) (N := some 42) (v := ?_) (a' := ?_) #[true, false, false, false, false, false, false, false, false, false] rfl rfl (any_of HT_.out (by kernel_rfl)) (fun _ _ _ h => h) (Or.inl ⟨by rfl, ?_⟩) ?_ ?_
                         rotate_left
                         ·intro w'
                          go_simp
                          with_reducible rfl
                         rotate_left
                         ·simp only [Act.put, List.setIfInBounds_toArray, List.set_cons_zero, List.set_cons_succ, i64_w, i32_w]
                          rfl
                         refine pure_ (i := 1) (N := some 43) (v := ?_) (a' := ?_) #[true, true, false, false, false, false, false, false, false, false] rfl rfl (any_of HT_.out (by kernel_rfl)) (fun _ _ _ h => h) (Or.inl ⟨by rfl, ?_⟩) ?_ ?_
                         rotate_left
                         ·intro w'
                          go_simp
                          with_reducible rfl
                         rotate_left
                         ·simp only [Act.put, List.setIfInBounds_toArray, List.set_cons_zero, List.set_cons_succ, i64_w, i32_w]
                          rfl
                         refine pure_ (i := 4) (N := some 46) (v := ?_) (a' := ?_) #[true, true, false, false, true, false, false, false, false, false] rfl rfl (any_of HT_.out (by kernel_rfl)) (fun _ _ _ h => h) (Or.inl ⟨by rfl, ?_⟩) ?_ ?_
                         rotate_left
                         ·intro w'
                          go_simp
                          with_reducible rfl
                         rotate_left
                         ·simp only [Act.put, List.setIfInBounds_toArray, List.set_cons_zero, List.set_cons_succ, i64_w, i32_w]
                          rfl
                         refine pure_ (i := 5) (N := some 47) (v := ?_) (a' := ?_) #[true, true, false, false, true, true, false, false, false, false] rfl rfl (any_of HT_.out (by kernel_rfl)) (fun _ _ _ h => h) (Or.inl ⟨by rfl, ?_⟩) ?_ ?_
                         rotate_left
                         ·intro w'
                          go_simp
                          with_reducible rfl
                         rotate_left
                         ·simp only [Act.put, List.setIfInBounds_toArray, List.set_cons_zero, List.set_cons_succ, i64_w, i32_w]
                          rfl
                         refine take_ (i := 2) (N := some 44) (v := ?_) (a' := ?_) #[true, true, true, false, true, true, false, false, false, false] rfl rfl (take_ofW HT_.out HW_.out (by kernel_rfl)) (fun _ _ _ h => h) (Or.inl ⟨by rfl, ?_⟩) hHeld ?_ ?_
                         rotate_left
                         ·intro w' _
                          go_simp
                          with_reducible rfl
                         rotate_left
                         ·simp only [Act.put, List.setIfInBounds_toArray, List.set_cons_zero, List.set_cons_succ, i64_w, i32_w]
                          rfl
                         refine pure_ (i := 3) (N := some 45) (v := ?_) (a' := ?_) #[true, true, true, true, true, true, false, false, false, false] rfl rfl (any_of HT_.out (by kernel_rfl)) (fun _ _ _ h => h) (Or.inl ⟨by rfl, ?_⟩) ?_ ?_
                         rotate_left
                         ·intro w'
                          go_simp
                          with_reducible rfl
                         rotate_left
                         ·simp only [Act.put, List.setIfInBounds_toArray, List.set_cons_zero, List.set_cons_succ, i64_w, i32_w]
                          rfl
                         refine pure_ (i := 8) (N := some 9) (v := ?_) (a' := ?_) #[true, true, true, true, true, true, false, false, true, false] rfl rfl (any_of HT_.out (by kernel_rfl)) (fun _ _ _ h => h) (Or.inl ⟨by rfl, ?_⟩) ?_ ?_
                         rotate_left
                         ·intro w'
                          go_simp
                          with_reducible rfl
                         rotate_left
                         ·simp only [Act.put, List.setIfInBounds_toArray, List.set_cons_zero, List.set_cons_succ, i64_w, i32_w]
                          rfl
                         refine take_ (i := 6) (N := some 48) (v := ?_) (a' := ?_) #[true, true, true, true, true, true, true, false, true, false] rfl rfl (take_ofW HT_.out HW_.out (by kernel_rfl)) (fun _ _ _ h => h) (Or.inl ⟨by rfl, ?_⟩) hHeld ?_ ?_
                         rotate_left
                         ·intro w' _
                          go_simp
                          with_reducible rfl
                         rotate_left
                         ·simp only [Act.put, List.setIfInBounds_toArray, List.set_cons_zero, List.set_cons_succ, i64_w, i32_w]
                          rfl
                         refine pure_ (i := 7) (N := some 49) (v := ?_) (a' := ?_) #[true, true, true, true, true, true, true, true, true, false] rfl rfl (any_of HT_.out (by kernel_rfl)) (fun _ _ _ h => h) (Or.inl ⟨by rfl, ?_⟩) ?_ ?_
                         rotate_left
                         ·intro w'
                          go_simp
                          with_reducible rfl
                         rotate_left
                         ·simp only [Act.put, List.setIfInBounds_toArray, List.set_cons_zero, List.set_cons_succ, i64_w, i32_w]
                          rfl
                         refine pure_ (i := 9) (N := some 10) (v := ?_) (a' := ?_) #[true, true, true, true, true, true, true, true, true, true] rfl rfl (any_of HT_.out (by kernel_rfl)) (fun _ _ _ h => h) (Or.inl ⟨by rfl, ?_⟩) ?_ ?_
                         rotate_left
                         ·intro w'
                          go_simp
                          with_reducible rfl
                         rotate_left
                         ·simp only [Act.put, List.setIfInBounds_toArray, List.set_cons_zero, List.set_cons_succ, i64_w, i32_w]
                          rfl
                         refine done_ (done_of HT_.out (by kernel_rfl)) ?_
                         try go_wp2
                         have n0_ := Aside0.mk (Kd.R_drew HO241.out)
                         have n1_ := Aside0.mk (below_drew1 HB.out)
                         clear HO241
                         clear HB
                         have HO241 := n0_
                         have HB := n1_
                         clear n0_ n1_
                         refine start_ (n := 14) (S := fun w' => True) (ds := []) #[false, false, false, false, false, false, false, false, false, false, false, false, false, false] (by kernel_rfl) rfl rfl trivial (fun hHeld => ?_); refine with_tabW impl_WordCut.tab7 impl_WordCut.bits7 (fun HT_ HW_ => ?_)
                         generalize w59.drew = w60 at HO241 HB hHeld ⊢
                         refine pure_ (i := 0) (N := some 50) (v := ?_) (a' := ?_) #[true, false, false, false, false, false, false, false, false, false, false, false, false, false] rfl rfl (any_of HT_.out (by kernel_rfl)) (fun _ _ _ h => h) (Or.inl ⟨by rfl, ?_⟩) ?_ ?_
                         rotate_left
                         ·intro w'
                          go_simp
                          with_reducible rfl
                         rotate_left
                         ·simp only [Act.put, List.setIfInBounds_toArray, List.set_cons_zero, List.set_cons_succ, i64_w, i32_w]
                          rfl
                         refine pure_ (i := 1) (N := some 51) (v := ?_) (a' := ?_) #[true, true, false, false, false, false, false, false, false, false, false, false, false, false] rfl rfl (any_of HT_.out (by kernel_rfl)) (fun _ _ _ h => h) (Or.inl ⟨by rfl, ?_⟩) ?_ ?_
                         rotate_left
                         ·intro w'
                          go_simp
                          with_reducible rfl
                         rotate_left
                         ·simp only [Act.put, List.setIfInBounds_toArray, List.set_cons_zero, List.set_cons_succ, i64_w, i32_w]
                          rfl
                         refine pure_ (i := 2) (N := some 52) (v := ?_) (a' := ?_) #[true, true, true, false, false, false, false, false, false, false, false, false, false, false] rfl rfl (any_of HT_.out (by kernel_rfl)) (fun _ _ _ h => h) (Or.inl ⟨by rfl, ?_⟩) ?_ ?_
                         rotate_left
                         ·intro w'
                          go_simp
                          with_reducible rfl
                         rotate_left
                         ·simp only [Act.put, List.setIfInBounds_toArray, List.set_cons_zero, List.set_cons_succ, i64_w, i32_w]
                          rfl
                         refine pure_ (i := 3) (N := some 53) (v := ?_) (a' := ?_) #[true, true, true, true, false, false, false, false, false, false, false, false, false, false] rfl rfl (any_of HT_.out (by kernel_rfl)) (fun _ _ _ h => h) (Or.inl ⟨by rfl, ?_⟩) ?_ ?_
                         rotate_left
                         ·intro w'
                          go_simp
                          with_reducible rfl
                         rotate_left
                         ·simp only [Act.put, List.setIfInBounds_toArray, List.set_cons_zero, List.set_cons_succ, i64_w, i32_w]
                          rfl
                         refine pure_ (i := 4) (N := some 54) (v := ?_) (a' := ?_) #[true, true, true, true, true, false, false, false, false, false, false, false, false, false] rfl rfl (any_of HT_.out (by kernel_rfl)) (fun _ _ _ h => h) (Or.inl ⟨by rfl, ?_⟩) ?_ ?_
                         rotate_left
                         ·intro w'
                          go_simp
                          with_reducible rfl
                         rotate_left
                         ·simp only [Act.put, List.setIfInBounds_toArray, List.set_cons_zero, List.set_cons_succ, i64_w, i32_w]
                          rfl
                         refine pure_ (i := 8) (N := some 58) (v := ?_) (a' := ?_) #[true, true, true, true, true, false, false, false, true, false, false, false, false, false] rfl rfl (any_of HT_.out (by kernel_rfl)) (fun _ _ _ h => h) (Or.inl ⟨by rfl, ?_⟩) ?_ ?_
                         rotate_left
                         ·intro w'
                          go_simp
                          with_reducible rfl
                         rotate_left
                         ·simp only [Act.put, List.setIfInBounds_toArray, List.set_cons_zero, List.set_cons_succ, i64_w, i32_w]
                          rfl
                         refine pure_ (i := 9) (N := some 59) (v := ?_) (a' := ?_) #[true, true, true, true, true, false, false, false, true, true, false, false, false, false] rfl rfl (any_of HT_.out (by kernel_rfl)) (fun _ _ _ h => h) (Or.inl ⟨by rfl, ?_⟩) ?_ ?_
                         rotate_left
                         ·intro w'
                          go_simp
                          with_reducible rfl
                         rotate_left
                         ·simp only [Act.put, List.setIfInBounds_toArray, List.set_cons_zero, List.set_cons_succ, i64_w, i32_w]
                          rfl
                         refine pure_ (i := 10) (N := some 60) (v := ?_) (a' := ?_) #[true, true, true, true, true, false, false, false, true, true, true, false, false, false] rfl rfl (any_of HT_.out (by kernel_rfl)) (fun _ _ _ h => h) (Or.inl ⟨by rfl, ?_⟩) ?_ ?_
                         rotate_left
                         ·intro w'
                          go_simp
                          with_reducible rfl
                         rotate_left
                         ·simp only [Act.put, List.setIfInBounds_toArray, List.set_cons_zero, List.set_cons_succ, i64_w, i32_w]
                          rfl
                         refine pure_ (i := 11) (N := some 61) (v := ?_) (a' := ?_) #[true, true, true, true, true, false, false, false, true, true, true, true, false, false] rfl rfl (any_of HT_.out (by kernel_rfl)) (fun _ _ _ h => h) (Or.inl ⟨by rfl, ?_⟩) ?_ ?_
                         rotate_left
                         ·intro w'
                          go_simp
                          with_reducible rfl
                         rotate_left
                         ·simp only [Act.put, List.setIfInBounds_toArray, List.set_cons_zero, List.set_cons_succ, i64_w, i32_w]
                          rfl
                         refine one_ (i := 5) (N := some 55) #[true, true, true, true, true, true, false, false, true, true, true, true, false, false] rfl rfl (one_of HT_.out (by kernel_rfl)) (by decide) (fun K hK => ?_)
                         refine Kd.R_lit_step (Kd.int .u8) _ 5 ?hg (N := 55) ?hd (xs := ([Go.bits .andNot .u8 (bt a0 a2) 32] : List Int)) (inner := [.int .u8 (Go.bits .andNot .u8 (bt a0 a2) 32)]) (ok := fun _ => True) (okp := fun _ => True) ?hr ?hp (fun _ hk => hk) trivial (Below.refl _ _) (Nat.le_refl _) (by simp) ?_; (case hd => rfl); (case hg => rfl); (case hr => first | (go_simp; done) | (go_simp; rfl)); (case hp => exact (Reps.one (show Kd.M (Kd.int .u8) _ _ _ (Go.bits .andNot .u8 (bt a0 a2) 32) [.int .u8 (Go.bits .andNot .u8 (bt a0 a2) 32)] from rfl) (Reps.none _ _)))
                         intro v244 w61 ho62 hb hg_ hnew_
                         clear hg_ hnew_
                         (first | rw [← Ny243.out] at ho62 | (simp only [Int.reduceToNat] at ho62; rw [← Ny243.out] at ho62))
                         have n0_ := Aside0.mk (Kd.R_below (by (with_reducible repeat (first | apply Kd.R_alloc | apply Kd.R_drewN | apply Kd.R_drew)); exact HO241.out) hb)
                         have n1_ := Aside0.mk (Kd.R_lower ho62 (below_size (by repeat (first | (with_reducible first | exact HB.out | apply below_alloc | apply pw_below_drewN | apply below_drew1) | exact HB.out))))
                         have n2_ := Aside0.mk (below_step (by repeat (first | (with_reducible first | exact HB.out | apply below_alloc | apply pw_below_drewN | apply below_drew1) | exact HB.out)) hb)
                         clear HO241
                         clear HB
                         have HO241 := n0_
                         have HO245 := n1_
                         have HB := n2_
                         clear n0_ n1_ n2_
                         clear hb ho62
                         refine hK.out _ _ trivial (fun hHeld => ?_)
                         clear hK K
                         refine norm_ (a' := ?_) ?_ ?_
                         rotate_left
                         ·show Act.put _ (some 55) _ = _
                          simp only [Act.put, List.setIfInBounds_toArray, List.set_cons_zero, List.set_cons_succ, i64_w, i32_w]
                          rfl
                         refine one_ (i := 6) (N := some 56) #[true, true, true, true, true, true, true, false, true, true, true, true, false, false] rfl rfl (one_of HT_.out (by kernel_rfl)) (by decide) (fun K hK => ?_)
                         have hcv63 := own_string (P := Tryd.prog) Tryd.underlying22 Tryd.underlying5 Tryd.underlying9 (Kd.own_of_R HO245.out)
                         refine value_ (w1 := ?_) (v := ?_) (by rfl) rfl ?_ ?_
                         rotate_left 2
                         ·go_simp
                          constructor
                          ·rfl
                          ·rfl
                         clear hcv63
                         refine hK.out _ _ trivial (fun hHeld => ?_)
                         clear hK K
                         refine norm_ (a' := ?_) ?_ ?_
                         rotate_left
                         ·show Act.put _ (some 56) _ = _
                          simp only [Act.put, List.setIfInBounds_toArray, List.set_cons_zero, List.set_cons_succ, i64_w, i32_w]
                          rfl
                         refine pure_ (i := 7) (N := some 57) (v := ?_) (a' := ?_) #[true, true, true, true, true, true, true, true, true, true, true, true, false, false] rfl rfl (any_of HT_.out (by kernel_rfl)) (fun _ _ _ h => h) (Or.inl ⟨by rfl, ?_⟩) ?_ ?_
                         rotate_left
                         ·intro w'
                          go_simp
                          with_reducible rfl
                         rotate_left
                         ·simp only [Act.put, List.setIfInBounds_toArray, List.set_cons_zero, List.set_cons_succ, i64_w, i32_w]
                          rfl
                         refine pure_ (i := 12) (N := some 62) (v := ?_) (a' := ?_) #[true, true, true, true, true, true, true, true, true, true, true, true, true, false] rfl rfl (any_of HT_.out (by kernel_rfl)) (fun _ _ _ h => h) (Or.inl ⟨by rfl, ?_⟩) ?_ ?_
                         rotate_left
                         ·intro w'
                          go_simp
                          with_reducible rfl
                         rotate_left
                         ·simp only [Act.put, List.setIfInBounds_toArray, List.set_cons_zero, List.set_cons_succ, i64_w, i32_w]
                          rfl
                         refine pure_ (i := 13) (N := some 11) (v := ?_) (a' := ?_) #[true, true, true, true, true, true, true, true, true, true, true, true, true, true] rfl rfl (any_of HT_.out (by kernel_rfl)) (fun _ _ _ h => h) (Or.inl ⟨by rfl, ?_⟩) ?_ ?_
                         rotate_left
                         ·intro w'
                          go_simp
                          with_reducible rfl
                         rotate_left
                         ·simp only [Act.put, List.setIfInBounds_toArray, List.set_cons_zero, List.set_cons_succ, i64_w, i32_w]
                          rfl
                         refine done_ (done_of HT_.out (by kernel_rfl)) ?_
                         try go_wp2
                         have n0_ := Aside0.mk (Kd.R_drew HO241.out)
                         have n1_ := Aside0.mk (Kd.R_drew HO245.out)
                         have n2_ := Aside0.mk (below_drew1 HB.out)
                         clear HO241
                         clear HO245
                         clear HB
                         have HO241 := n0_
                         have HO245 := n1_
                         have HB := n2_
                         clear n0_ n1_ n2_
                         have p37 : 0 ≤ (a2 : Int) := of_decide_eq_true (by first | (with_reducible assumption) | assumption)
                         have q37 : a2 < (a0.size : Int) := of_decide_eq_true (by first | (with_reducible assumption) | assumption)
                         have hx37 := bt_at a0 a2
                         replace p37 := eq_true p37
                         replace q37 := eq_true q37
                         have p40 : 0 ≤ ((rd t239 a2) : Int) := of_decide_eq_true (by first | (with_reducible assumption) | assumption)
                         have q40 : (rd t239 a2) < (a0.size : Int) := of_decide_eq_true (by first | (with_reducible assumption) | assumption)
                         have hx40 := bt_at a0 (rd t239 a2)
                         replace p40 := eq_true p40
                         replace q40 := eq_true q40
                         refine start_ (n := 7) (S := fun w' => True) (ds := []) #[false, false, false, false, false, false, false] (by kernel_rfl) rfl rfl trivial (fun hHeld => ?_)
                         generalize w61.drew = w64 at HO241 HO245 HB hHeld ⊢
                         refine pure_ (i := 0) (N := some 63) (v := ?_) (a' := ?_) #[true, false, false, false, false, false, false] rfl rfl (by kernel_rfl) (fun _ _ _ h => h) (Or.inl ⟨by rfl, ?_⟩) ?_ ?_
                         rotate_left
                         ·intro w'
                          go_simp
                          with_reducible rfl
                         rotate_left
                         ·simp only [Act.put, List.setIfInBounds_toArray, List.set_cons_zero, List.set_cons_succ, i64_w, i32_w]
                          rfl
                         refine pure_ (i := 1) (N := some 64) (v := ?_) (a' := ?_) #[true, true, false, false, false, false, false] rfl rfl (by kernel_rfl) (fun _ _ _ h => h) (Or.inl ⟨by rfl, ?_⟩) ?_ ?_
                         rotate_left
                         ·intro w'
                          go_simp
                          with_reducible rfl
                         rotate_left
                         ·simp only [Act.put, List.setIfInBounds_toArray, List.set_cons_zero, List.set_cons_succ, i64_w, i32_w]
                          rfl
                         refine pure_ (i := 3) (N := some 66) (v := ?_) (a' := ?_) #[true, true, false, true, false, false, false] rfl rfl (by kernel_rfl) (fun _ _ _ h => h) (Or.inl ⟨by rfl, ?_⟩) ?_ ?_
                         rotate_left
                         ·intro w'
                          go_simp
                          with_reducible rfl
                         rotate_left
                         ·simp only [Act.put, List.setIfInBounds_toArray, List.set_cons_zero, List.set_cons_succ, i64_w, i32_w]
                          rfl
                         refine pure_ (i := 4) (N := some 67) (v := ?_) (a' := ?_) #[true, true, false, true, true, false, false] rfl rfl (by kernel_rfl) (fun _ _ _ h => h) (Or.inl ⟨by rfl, ?_⟩) ?_ ?_
                         rotate_left
                         ·intro w'
                          go_simp
                          with_reducible rfl
                         rotate_left
                         ·simp only [Act.put, List.setIfInBounds_toArray, List.set_cons_zero, List.set_cons_succ, i64_w, i32_w]
                          rfl
                         refine take_ (i := 2) (N := some 65) (v := ?_) (a' := ?_) #[true, true, true, true, true, false, false] rfl rfl (by kernel_rfl) (fun _ _ _ h => h) (Or.inl ⟨by rfl, ?_⟩) hHeld ?_ ?_
                         rotate_left
                         ·intro w' _
                          go_simp
                          with_reducible rfl
                         rotate_left
                         ·simp only [Act.put, List.setIfInBounds_toArray, List.set_cons_zero, List.set_cons_succ, i64_w, i32_w]
                          rfl
                         refine take_ (i := 5) (N := some 68) (v := ?_) (a' := ?_) #[true, true, true, true, true, true, false] rfl rfl (by kernel_rfl) (fun _ _ _ h => h) (Or.inl ⟨by rfl, ?_⟩) hHeld ?_ ?_
                         rotate_left
                         ·intro w' _
                          go_simp
                          with_reducible rfl
                         rotate_left
                         ·simp only [Act.put, List.setIfInBounds_toArray, List.set_cons_zero, List.set_cons_succ, i64_w, i32_w]
                          rfl
                         refine pure_ (i := 6) (N := some 69) (v := ?_) (a' := ?_) #[true, true, true, true, true, true, true] rfl rfl (by kernel_rfl) (fun _ _ _ h => h) (Or.inl ⟨by rfl, ?_⟩) ?_ ?_
                         rotate_left
                         ·intro w'
                          go_simp
                          with_reducible rfl
                         rotate_left
                         ·simp only [Act.put, List.setIfInBounds_toArray, List.set_cons_zero, List.set_cons_succ, i64_w, i32_w]
                          rfl
                         refine done_ (by kernel_rfl) ?_
                         try go_wp2_with (first | ((with_reducible refine gate_callee (f := 43) rfl ?_); refine goesL_ (some 71) rfl rfl Tryd.func43 (by kernel_rfl) rfl #[.string zs36] rfl (by (try simp only [List.map_toArray, List.map_cons, List.map_nil]); first | done | rfl | (simp only [List.length_drop, List.length_take]; rfl)) ?_; (with_reducible refine (impl_reversed.calls kj3 zs36 t246 _ A42.out).mono ?_); rintro e w65 ⟨rfl, hb⟩; refine ⟨_, rfl, ?_⟩; have n0_ := Aside0.mk (Kd.R_below (by (with_reducible repeat (first | apply Kd.R_alloc | apply Kd.R_drewN | apply Kd.R_drew)); exact HO241.out) hb); have n1_ := Aside0.mk (Kd.R_below (by (with_reducible repeat (first | apply Kd.R_alloc | apply Kd.R_drewN | apply Kd.R_drew)); exact HO245.out) hb); have n2_ := Aside0.mk (below_step (by repeat (first | (with_reducible first | exact HB.out | apply below_alloc | apply pw_below_drewN | apply below_drew1) | exact HB.out)) hb); clear HO241; clear HO245; clear HB; have HO241 := n0_; have HO245 := n1_; have HB := n2_; clear n0_ n1_ n2_; (try clear hb); (try clear hb2); (try clear hk); (try clear hi)))
                         have n0_ := Aside0.mk (Kd.R_drew HO241.out)
                         have n1_ := Aside0.mk (Kd.R_drew HO245.out)
                         have n2_ := Aside0.mk (below_drew1 HB.out)
                         clear HO241
                         clear HO245
                         clear HB
                         have HO241 := n0_
                         have HO245 := n1_
                         have HB := n2_
                         clear n0_ n1_ n2_
                         refine start_ (n := 17) (S := fun w' => True) (ds := []) #[false, false, false, false, false, false, false, false, false, false, false, false, false, false, false, false, false] (by kernel_rfl) rfl rfl trivial (fun hHeld => ?_); refine with_tabW impl_WordCut.tab10 impl_WordCut.bits10 (fun HT_ HW_ => ?_)
                         generalize w65.drew = w66 at HO241 HO245 HB hHeld ⊢
                         refine pure_ (i := 0) (N := some 72) (v := ?_) (a' := ?_) #[true, false, false, false, false, false, false, false, false, false, false, false, false, false, false, false, false] rfl rfl (any_of HT_.out (by kernel_rfl)) (fun _ _ _ h => h) (Or.inl ⟨by rfl, ?_⟩) ?_ ?_
                         rotate_left
                         ·intro w'
                          go_simp
                          with_reducible rfl
                         rotate_left
                         ·simp only [Act.put, List.setIfInBounds_toArray, List.set_cons_zero, List.set_cons_succ, i64_w, i32_w]
                          rfl
                         refine pure_ (i := 1) (N := some 73) (v := ?_) (a' := ?_) #[true, true, false, false, false, false, false, false, false, false, false, false, false, false, false, false, false] rfl rfl (any_of HT_.out (by kernel_rfl)) (fun _ _ _ h => h) (Or.inl ⟨by rfl, ?_⟩) ?_ ?_
                         rotate_left
                         ·intro w'
                          go_simp
                          with_reducible rfl
                         rotate_left
                         ·simp only [Act.put, List.setIfInBounds_toArray, List.set_cons_zero, List.set_cons_succ, i64_w, i32_w]
                          rfl
                         refine pure_ (i := 2) (N := some 74) (v := ?_) (a' := ?_) #[true, true, true, false, false, false, false, false, false, false, false, false, false, false, false, false, false] rfl rfl (any_of HT_.out (by kernel_rfl)) (fun _ _ _ h => h) (Or.inl ⟨by rfl, ?_⟩) ?_ ?_
                         rotate_left
                         ·intro w'
                          go_simp
                          with_reducible rfl
                         rotate_left
                         ·simp only [Act.put, List.setIfInBounds_toArray, List.set_cons_zero, List.set_cons_succ, i64_w, i32_w]
                          rfl
                         refine pure_ (i := 3) (N := some 75) (v := ?_) (a' := ?_) #[true, true, true, true, false, false, false, false, false, false, false, false, false, false, false, false, false] rfl rfl (any_of HT_.out (by kernel_rfl)) (fun _ _ _ h => h) (Or.inl ⟨by rfl, ?_⟩) ?_ ?_
                         rotate_left
                         ·intro w'
                          go_simp
                          with_reducible rfl
                         rotate_left
                         ·simp only [Act.put, List.setIfInBounds_toArray, List.set_cons_zero, List.set_cons_succ, i64_w, i32_w]
                          rfl
                         refine pure_ (i := 4) (N := some 76) (v := ?_) (a' := ?_) #[true, true, true, true, true, false, false, false, false, false, false, false, false, false, false, false, false] rfl rfl (any_of HT_.out (by kernel_rfl)) (fun _ _ _ h => h) (Or.inl ⟨by rfl, ?_⟩) ?_ ?_
                         rotate_left
                         ·intro w'
                          go_simp
                          with_reducible rfl
                         rotate_left
                         ·simp only [Act.put, List.setIfInBounds_toArray, List.set_cons_zero, List.set_cons_succ, i64_w, i32_w]
                          rfl
                         refine pure_ (i := 5) (N := some 77) (v := ?_) (a' := ?_) #[true, true, true, true, true, true, false, false, false, false, false, false, false, false, false, false, false] rfl rfl (any_of HT_.out (by kernel_rfl)) (fun _ _ _ h => h) (Or.inl ⟨by rfl, ?_⟩) ?_ ?_
                         rotate_left
                         ·intro w'
                          go_simp
                          with_reducible rfl
                         rotate_left
                         ·simp only [Act.put, List.setIfInBounds_toArray, List.set_cons_zero, List.set_cons_succ, i64_w, i32_w]
                          rfl
                         refine pure_ (i := 9) (N := some 81) (v := ?_) (a' := ?_) #[true, true, true, true, true, true, false, false, false, true, false, false, false, false, false, false, false] rfl rfl (any_of HT_.out (by kernel_rfl)) (fun _ _ _ h => h) (Or.inl ⟨by rfl, ?_⟩) ?_ ?_
                         rotate_left
                         ·intro w'
                          go_simp
                          with_reducible rfl
                         rotate_left
                         ·simp only [Act.put, List.setIfInBounds_toArray, List.set_cons_zero, List.set_cons_succ, i64_w, i32_w]
                          rfl
                         refine pure_ (i := 10) (N := some 82) (v := ?_) (a' := ?_) #[true, true, true, true, true, true, false, false, false, true, true, false, false, false, false, false, false] rfl rfl (any_of HT_.out (by kernel_rfl)) (fun _ _ _ h => h) (Or.inl ⟨by rfl, ?_⟩) ?_ ?_
                         rotate_left
                         ·intro w'
                          go_simp
                          with_reducible rfl
                         rotate_left
                         ·simp only [Act.put, List.setIfInBounds_toArray, List.set_cons_zero, List.set_cons_succ, i64_w, i32_w]
                          rfl
                         refine pure_ (i := 11) (N := some 83) (v := ?_) (a' := ?_) #[true, true, true, true, true, true, false, false, false, true, true, true, false, false, false, false, false] rfl rfl (any_of HT_.out (by kernel_rfl)) (fun _ _ _ h => h) (Or.inl ⟨by rfl, ?_⟩) ?_ ?_
                         rotate_left
                         ·intro w'
                          go_simp
                          with_reducible rfl
                         rotate_left
                         ·simp only [Act.put, List.setIfInBounds_toArray, List.set_cons_zero, List.set_cons_succ, i64_w, i32_w]
                          rfl
                         refine pure_ (i := 13) (N := some 85) (v := ?_) (a' := ?_) #[true, true, true, true, true, true, false, false, false, true, true, true, false, true, false, false, false] rfl rfl (any_of HT_.out (by kernel_rfl)) (fun _ _ _ h => h) (Or.inl ⟨by rfl, ?_⟩) ?_ ?_
                         rotate_left
                         ·intro w'
                          go_simp
                          with_reducible rfl
                         rotate_left
                         ·simp only [Act.put, List.setIfInBounds_toArray, List.set_cons_zero, List.set_cons_succ, i64_w, i32_w]
                          rfl
                         refine one_ (i := 6) (N := some 78) #[true, true, true, true, true, true, true, false, false, true, true, true, false, true, false, false, false] rfl rfl (one_of HT_.out (by kernel_rfl)) (by decide) (fun K hK => ?_)
                         refine Kd.R_lit_step (Kd.int .u8) _ 5 ?hg (N := 78) ?hd (xs := ([Go.bits .or .u8 (bt a0 a2) 32] : List Int)) (inner := [.int .u8 (Go.bits .or .u8 (bt a0 a2) 32)]) (ok := fun _ => True) (okp := fun _ => True) ?hr ?hp (fun _ hk => hk) trivial (Below.refl _ _) (Nat.le_refl _) (by simp) ?_; (case hd => rfl); (case hg => rfl); (case hr => first | (go_simp; done) | (go_simp; rfl)); (case hp => exact (Reps.one (show Kd.M (Kd.int .u8) _ _ _ (Go.bits .or .u8 (bt a0 a2) 32) [.int .u8 (Go.bits .or .u8 (bt a0 a2) 32)] from rfl) (Reps.none _ _)))
                         intro v248 w67 ho68 hb hg_ hnew_
                         clear hg_ hnew_
                         (first | rw [← Ny247.out] at ho68 | (simp only [Int.reduceToNat] at ho68; rw [← Ny247.out] at ho68))
                         have n0_ := Aside0.mk (Kd.R_below (by (with_reducible repeat (first | apply Kd.R_alloc | apply Kd.R_drewN | apply Kd.R_drew)); exact HO241.out) hb)
                         have n1_ := Aside0.mk (Kd.R_elder' (by (with_reducible repeat (first | apply Kd.R_alloc | apply Kd.R_drewN | apply Kd.R_drew)); exact HO245.out) (Kd.R_base ho68) hb)
                         have n2_ := Aside0.mk (Kd.R_lower (Kd.R_new' ho68 (Kd.R_lt (by (with_reducible repeat (first | apply Kd.R_alloc | apply Kd.R_drewN | apply Kd.R_drew)); exact HO245.out))) (below_size (by repeat (first | (with_reducible first | exact HB.out | apply below_alloc | apply pw_below_drewN | apply below_drew1) | exact HB.out))))
                         have n3_ := Aside0.mk (below_step (by repeat (first | (with_reducible first | exact HB.out | apply below_alloc | apply pw_below_drewN | apply below_drew1) | exact HB.out)) hb)
                         clear HO241
                         clear HO245
                         clear HB
                         have HO241 := n0_
                         have HO245 := n1_
                         have HO249 := n2_
                         have HB := n3_
                         clear n0_ n1_ n2_ n3_
                         clear hb ho68
                         refine hK.out _ _ trivial (fun hHeld => ?_)
                         clear hK K
                         refine norm_ (a' := ?_) ?_ ?_
                         rotate_left
                         ·show Act.put _ (some 78) _ = _
                          simp only [Act.put, List.setIfInBounds_toArray, List.set_cons_zero, List.set_cons_succ, i64_w, i32_w]
                          rfl
                         refine one_ (i := 7) (N := some 79) #[true, true, true, true, true, true, true, true, false, true, true, true, false, true, false, false, false] rfl rfl (one_of HT_.out (by kernel_rfl)) (by decide) (fun K hK => ?_)
                         have hcv69 := own_string (P := Tryd.prog) Tryd.underlying22 Tryd.underlying5 Tryd.underlying9 (Kd.own_of_R HO249.out)
                         refine value_ (w1 := ?_) (v := ?_) (by rfl) rfl ?_ ?_
                         rotate_left 2
                         ·go_simp
                          constructor
                          ·rfl
                          ·rfl
                         clear hcv69
                         refine hK.out _ _ trivial (fun hHeld => ?_)
                         clear hK K
                         refine norm_ (a' := ?_) ?_ ?_
                         rotate_left
                         ·show Act.put _ (some 79) _ = _
                          simp only [Act.put, List.setIfInBounds_toArray, List.set_cons_zero, List.set_cons_succ, i64_w, i32_w]
                          rfl
                         refine pure_ (i := 8) (N := some 80) (v := ?_) (a' := ?_) #[true, true, true, true, true, true, true, true, true, true, true, true, false, true, false, false, false] rfl rfl (any_of HT_.out (by kernel_rfl)) (fun _ _ _ h => h) (Or.inl ⟨by rfl, ?_⟩) ?_ ?_
                         rotate_left
                         ·intro w'
                          go_simp
                          with_reducible rfl
                         rotate_left
                         ·simp only [Act.put, List.setIfInBounds_toArray, List.set_cons_zero, List.set_cons_succ, i64_w, i32_w]
                          rfl
                         refine pure_ (i := 12) (N := some 84) (v := ?_) (a' := ?_) #[true, true, true, true, true, true, true, true, true, true, true, true, true, true, false, false, false] rfl rfl (any_of HT_.out (by kernel_rfl)) (fun _ _ _ h => h) (Or.inl ⟨by rfl, ?_⟩) ?_ ?_
                         rotate_left
                         ·intro w'
                          go_simp
                          with_reducible rfl
                         rotate_left
                         ·simp only [Act.put, List.setIfInBounds_toArray, List.set_cons_zero, List.set_cons_succ, i64_w, i32_w]
                          rfl
                         refine pure_ (i := 14) (N := some 86) (v := ?_) (a' := ?_) #[true, true, true, true, true, true, true, true, true, true, true, true, true, true, true, false, false] rfl rfl (any_of HT_.out (by kernel_rfl)) (fun _ _ _ h => h) (Or.inl ⟨by rfl, ?_⟩) ?_ ?_
                         rotate_left
                         ·intro w'
                          go_simp
                          with_reducible rfl
                         rotate_left
                         ·simp only [Act.put, List.setIfInBounds_toArray, List.set_cons_zero, List.set_cons_succ, i64_w, i32_w]
                          rfl
                         refine pure_ (i := 15) (N := some 6) (v := ?_) (a' := ?_) #[true, true, true, true, true, true, true, true, true, true, true, true, true, true, true, true, false] rfl rfl (any_of HT_.out (by kernel_rfl)) (fun _ _ _ h => h) (Or.inl ⟨by rfl, ?_⟩) ?_ ?_
                         rotate_left
                         ·intro w'
                          go_simp
                          with_reducible rfl
                         rotate_left
                         ·simp only [Act.put, List.setIfInBounds_toArray, List.set_cons_zero, List.set_cons_succ, i64_w, i32_w]
                          rfl
                         refine pure_ (i := 16) (N := some 7) (v := ?_) (a' := ?_) #[true, true, true, true, true, true, true, true, true, true, true, true, true, true, true, true, true] rfl rfl (any_of HT_.out (by kernel_rfl)) (fun _ _ _ h => h) (Or.inl ⟨by rfl, ?_⟩) ?_ ?_
                         rotate_left
                         ·intro w'
                          go_simp
                          with_reducible rfl
                         rotate_left
                         ·simp only [Act.put, List.setIfInBounds_toArray, List.set_cons_zero, List.set_cons_succ, i64_w, i32_w]
                          rfl
                         refine done_ (done_of HT_.out (by kernel_rfl)) ?_
                         try go_wp2
                         go_ret2
                         exact ⟨by first | rfl | (simp [errW_none, errW_some] <;> rfl) | (simp only [← hji25, ← hji43]; first | rfl | (simp [errW_none, errW_some] <;> rfl)) | (simp [*, errW_none, errW_some] <;> rfl), by repeat (first | (with_reducible first | exact HB.out | apply below_alloc | apply pw_below_drewN | apply below_drew1) | exact HB.out)⟩
                        ·rw [if_neg c55] at H
                         exact absurd H (by simp)
                       ·rw [if_neg c53] at H
                        exact absurd H (by simp)
                      ·rw [if_neg c51] at H
                       exact absurd H (by simp)
                     ·rw [if_neg c48] at H
                      exact absurd H (by simp)
                    ·rw [if_neg c46] at H
                     exact absurd H (by simp)
                   ·rw [if_neg c45] at H
                    exact absurd H (by simp)
                  ·rw [if_neg c44] at H
                   exact absurd H (by simp)
                 ·rw [if_neg c41] at H
                  have c41b0 : ((bt a0 a2) == (bt a0 (rd t239 a2))) = false := beq_eq_false_iff_ne.mpr c41
                  have c41b1 : ((bt a0 a2) != (bt a0 (rd t239 a2))) = true := bne_iff_ne.mpr c41
                  obtain ⟨ji70, hji70⟩ : ∃ j_ : Int, (wrap64 (a2 + 1)) = j_ := ⟨_, rfl⟩
                  replace H : (if 0 ≤ (ji70) then (if (ji70) ≤ a1 then (if a1 ≤ (a0.size : Int) then ((some (([Go.bits .or .u8 (bt a0 a2) 32] : List Int) : List Int)).bind fun y250 => (if (a0.extract ((ji70) : Int).toNat (a1 : Int).toNat).size + (strOfNums y250).size ≤ 9223372036854775807 then (if a2 ≤ (a0.size : Int) then (if ((a0.extract ((ji70) : Int).toNat (a1 : Int).toNat) ++ (strOfNums y250)).size + (a0.extract 0 (a2 : Int).toNat).size ≤ 9223372036854775807 then (if (((a0.extract ((ji70) : Int).toNat (a1 : Int).toNat) ++ (strOfNums y250)) ++ (a0.extract 0 (a2 : Int).toNat)).size + zs36.size ≤ 9223372036854775807 then (some (((((a0.extract ((ji70) : Int).toNat (a1 : Int).toNat) ++ (strOfNums y250)) ++ (a0.extract 0 (a2 : Int).toNat)) ++ zs36), true)) else (none)) else (none)) else (none)) else (none))) else (none)) else (none)) else (none)) = some (r1, r2) := by first | (rw [hji70] at H; exact H) | (simp only [hji70] at H ⊢; exact H)
                  (try rw [hji70] at A16)
                  have hji70w : (IntKind.i64.wrap (a2 + 1)) = ji70 := (i64_w _).trans hji70
                  by_cases c71 : 0 ≤ (ji70)
                  ·rw [if_pos c71] at H
                   have c71b0 := eq_true c71
                   have c71b1 : decide (0 ≤ (ji70)) = true := decide_eq_true c71
                   clear c71
                   by_cases c72 : (ji70) ≤ a1
                   ·rw [if_pos c72] at H
                    have c72b0 := eq_true c72
                    have c72b1 : decide ((ji70) ≤ a1) = true := decide_eq_true c72
                    clear c72
                    by_cases c73 : a1 ≤ (a0.size : Int)
                    ·rw [if_pos c73] at H
                     have c73b0 := eq_true c73
                     have c73b1 : decide (a1 ≤ (a0.size : Int)) = true := decide_eq_true c73
                     clear c73
                     obtain ⟨zs74, hzs74⟩ : ∃ j_ : ByteArray, (a0.extract ((ji70) : Int).toNat (a1 : Int).toNat) = j_ := ⟨_, rfl⟩
                     replace H : ((some (([Go.bits .or .u8 (bt a0 a2) 32] : List Int) : List Int)).bind fun y250 => (if zs74.size + (strOfNums y250).size ≤ 9223372036854775807 then (if a2 ≤ (a0.size : Int) then (if (zs74 ++ (strOfNums y250)).size + (a0.extract 0 (a2 : Int).toNat).size ≤ 9223372036854775807 then (if ((zs74 ++ (strOfNums y250)) ++ (a0.extract 0 (a2 : Int).toNat)).size + zs36.size ≤ 9223372036854775807 then (some ((((zs74 ++ (strOfNums y250)) ++ (a0.extract 0 (a2 : Int).toNat)) ++ zs36), true)) else (none)) else (none)) else (none)) else (none))) = some (r1, r2) := by first | (rw [hzs74] at H; exact H) | (simp only [hzs74] at H ⊢; exact H) | exact H
                     (try rw [hzs74] at A16)
                     obtain ⟨y250, hy250⟩ : ∃ y_ : List Int, y_ = (([Go.bits .or .u8 (bt a0 a2) 32] : List Int)) := ⟨_, rfl⟩
                     replace H : (if zs74.size + (strOfNums y250).size ≤ 9223372036854775807 then (if a2 ≤ (a0.size : Int) then (if (zs74 ++ (strOfNums y250)).size + (a0.extract 0 (a2 : Int).toNat).size ≤ 9223372036854775807 then (if ((zs74 ++ (strOfNums y250)) ++ (a0.extract 0 (a2 : Int).toNat)).size + zs36.size ≤ 9223372036854775807 then (some ((((zs74 ++ (strOfNums y250)) ++ (a0.extract 0 (a2 : Int).toNat)) ++ zs36), true)) else (none)) else (none)) else (none)) else (none)) = some (r1, r2) := by first | (rw [hy250]; with_reducible exact H) | (have H2_ := (Option.bind_some _ _).symm.trans H; rw [hy250]; with_reducible exact H2_) | (have H2_ := (Option.bind_some _ _).symm.trans H; with_reducible exact H2_) | with_reducible exact H | (rw [hy250]; exact H) | exact H
                     have Ny250 := Aside0.mk hy250
                     clear hy250
                     by_cases c75 : zs74.size + (strOfNums y250).size ≤ 9223372036854775807
                     ·rw [if_pos c75] at H
                      have c75b0 := eq_true c75
                      have c75b1 : decide (zs74.size + (strOfNums y250).size ≤ 9223372036854775807) = true := decide_eq_true c75
                      try have c75b2 : (9223372036854775807 < zs74.size + (strOfNums y250).size) = False := eq_false (Nat.not_lt.2 c75)
                      obtain ⟨zs76, hzs76⟩ : ∃ j_ : ByteArray, (zs74 ++ (strOfNums y250)) = j_ := ⟨_, rfl⟩
                      replace H : (if a2 ≤ (a0.size : Int) then (if zs76.size + (a0.extract 0 (a2 : Int).toNat).size ≤ 9223372036854775807 then (if (zs76 ++ (a0.extract 0 (a2 : Int).toNat)).size + zs36.size ≤ 9223372036854775807 then (some (((zs76 ++ (a0.extract 0 (a2 : Int).toNat)) ++ zs36), true)) else (none)) else (none)) else (none)) = some (r1, r2) := by first | (rw [hzs76] at H; exact H) | (simp only [hzs76] at H ⊢; exact H) | exact H
                      (try rw [hzs76] at A16)
                      have c77b0 := eq_true (of_decide_eq_true (by first | (with_reducible assumption) | assumption) : 0 ≤ a2)
                      by_cases c78 : a2 ≤ (a0.size : Int)
                      ·rw [if_pos c78] at H
                       have c78b0 := eq_true c78
                       have c78b1 : decide (a2 ≤ (a0.size : Int)) = true := decide_eq_true c78
                       clear c78
                       obtain ⟨zs79, hzs79⟩ : ∃ j_ : ByteArray, (a0.extract 0 (a2 : Int).toNat) = j_ := ⟨_, rfl⟩
                       replace H : (if zs76.size + zs79.size ≤ 9223372036854775807 then (if (zs76 ++ zs79).size + zs36.size ≤ 9223372036854775807 then (some (((zs76 ++ zs79) ++ zs36), true)) else (none)) else (none)) = some (r1, r2) := by first | (rw [hzs79] at H; exact H) | (simp only [hzs79] at H ⊢; exact H) | exact H
                       (try rw [hzs79] at A16)
                       by_cases c80 : zs76.size + zs79.size ≤ 9223372036854775807
                       ·rw [if_pos c80] at H
                        have c80b0 := eq_true c80
                        have c80b1 : decide (zs76.size + zs79.size ≤ 9223372036854775807) = true := decide_eq_true c80
                        try have c80b2 : (9223372036854775807 < zs76.size + zs79.size) = False := eq_false (Nat.not_lt.2 c80)
                        obtain ⟨zs81, hzs81⟩ : ∃ j_ : ByteArray, (zs76 ++ zs79) = j_ := ⟨_, rfl⟩
                        replace H : (if zs81.size + zs36.size ≤ 9223372036854775807 then (some ((zs81 ++ zs36), true)) else (none)) = some (r1, r2) := by first | (rw [hzs81] at H; exact H) | (simp only [hzs81] at H ⊢; exact H) | exact H
                        (try rw [hzs81] at A16)
                        by_cases c82 : zs81.size + zs36.size ≤ 9223372036854775807
                        ·rw [if_pos c82] at H
                         have c82b0 := eq_true c82
                         have c82b1 : decide (zs81.size + zs36.size ≤ 9223372036854775807) = true := decide_eq_true c82
                         try have c82b2 : (9223372036854775807 < zs81.size + zs36.size) = False := eq_false (Nat.not_lt.2 c82)
                         obtain ⟨zs83, hzs83⟩ : ∃ j_ : ByteArray, (zs81 ++ zs36) = j_ := ⟨_, rfl⟩
                         replace H : (some (zs83, true)) = some (r1, r2) := by first | (rw [hzs83] at H; exact H) | (simp only [hzs83] at H ⊢; exact H) | exact H
                         (try rw [hzs83] at A16)
                         simp only [Option.some.injEq, Prod.mk.injEq] at H
                         obtain ⟨rfl, rfl⟩ := H
                         try go_wp2_with (first | ((with_reducible refine gate_callee (f := 48) rfl ?_); refine goesL_ (some 35) rfl rfl Tryd.func48 (by kernel_rfl) rfl #[.string a0] rfl (by (try simp only [List.map_toArray, List.map_cons, List.map_nil]); first | done | rfl | (simp only [List.length_drop, List.length_take]; rfl)) ?_; (with_reducible refine (impl_partnersOf.calls kj3 a0 t239 _ A16.out).mono ?_); rintro e w84 ⟨v240, rfl, ho0, hb⟩; refine ⟨_, rfl, ?_⟩; have n0_ := Aside0.mk (Kd.R_lower ho0 (below_size (by repeat (first | (with_reducible first | exact HB.out | apply below_alloc | apply pw_below_drewN | apply below_drew1) | exact HB.out)))); have n1_ := Aside0.mk (below_step (by repeat (first | (with_reducible first | exact HB.out | apply below_alloc | apply pw_below_drewN | apply below_drew1) | exact HB.out)) hb); clear HB; have HO241 := n0_; have HB := n1_; clear n0_ n1_; (try clear hb); (try clear hb2); (try clear hk); (try clear hi); (try clear ho0); obtain ⟨Ao85, co85, eo85⟩ := Kd.R_slice HO241.out; subst eo85; have p242 : 0 ≤ (a2 : Int) := of_decide_eq_true (by first | (with_reducible assumption) | assumption); have q242 : a2 < (t239.length : Int) := of_decide_eq_true (by first | (with_reducible assumption) | assumption); obtain ⟨ad242, e242, hx242_0⟩ := Kd.at_int (Kd.R_reads' HO241.out).2.2 a2 p242 q242; cases e242; replace p242 := eq_true p242; replace q242 := eq_true q242))
                         have n0_ := Aside0.mk (Kd.R_drew HO241.out)
                         have n1_ := Aside0.mk (below_drew1 HB.out)
                         clear HO241
                         clear HB
                         have HO241 := n0_
                         have HB := n1_
                         clear n0_ n1_
                         have p23 : 0 ≤ (a2 : Int) := of_decide_eq_true (by first | (with_reducible assumption) | assumption)
                         have q23 : a2 < (a0.size : Int) := of_decide_eq_true (by first | (with_reducible assumption) | assumption)
                         have hx23 := bt_at a0 a2
                         replace p23 := eq_true p23
                         replace q23 := eq_true q23
                         have p24 : 0 ≤ (a2 : Int) := of_decide_eq_true (by first | (with_reducible assumption) | assumption)
                         have q24 : a2 < (a0.size : Int) := of_decide_eq_true (by first | (with_reducible assumption) | assumption)
                         have hx24 := bt_at a0 a2
                         replace p24 := eq_true p24
                         replace q24 := eq_true q24
                         refine start_ (n := 10) (S := fun w' => True) (ds := []) #[false, false, false, false, false, false, false, false, false, false] (by kernel_rfl) rfl rfl trivial (fun hHeld => ?_); refine with_tabW impl_WordCut.tab6 impl_WordCut.bits6 (fun HT_ HW_ => ?_)
                         generalize w84.drew = w86 at HO241 HB hHeld ⊢
                         refine pure_ (i := 0) (N := some 42) (v := ?_) (a' := ?_) #[true, false, false, false, false, false, false, false, false, false] rfl rfl (any_of HT_.out (by kernel_rfl)) (fun _ _ _ h => h) (Or.inl ⟨by rfl, ?_⟩) ?_ ?_
                         rotate_left
                         ·intro w'
                          go_simp
                          with_reducible rfl
                         rotate_left
                         ·simp only [Act.put, List.setIfInBounds_toArray, List.set_cons_zero, List.set_cons_succ, i64_w, i32_w]
                          rfl
                         refine pure_ (i := 1) (N := some 43) (v := ?_) (a' := ?_) #[true, true, false, false, false, false, false, false, false, false] rfl rfl (any_of HT_.out (by kernel_rfl)) (fun _ _ _ h => h) (Or.inl ⟨by rfl, ?_⟩) ?_ ?_
                         rotate_left
                         ·intro w'
                          go_simp
                          with_reducible rfl
                         rotate_left
                         ·simp only [Act.put, List.setIfInBounds_toArray, List.set_cons_zero, List.set_cons_succ, i64_w, i32_w]
                          rfl
                         refine pure_ (i := 4) (N := some 46) (v := ?_) (a' := ?_) #[true, true, false, false, true, false, false, false, false, false] rfl rfl (any_of HT_.out (by kernel_rfl)) (fun _ _ _ h => h) (Or.inl ⟨by rfl, ?_⟩) ?_ ?_
                         rotate_left
                         ·intro w'
                          go_simp
                          with_reducible rfl
                         rotate_left
                         ·simp only [Act.put, List.setIfInBounds_toArray, List.set_cons_zero, List.set_cons_succ, i64_w, i32_w]
                          rfl
                         refine pure_ (i := 5) (N := some 47) (v := ?_) (a' := ?_) #[true, true, false, false, true, true, false, false, false, false] rfl rfl (any_of HT_.out (by kernel_rfl)) (fun _ _ _ h => h) (Or.inl ⟨by rfl, ?_⟩) ?_ ?_
                         rotate_left
                         ·intro w'
                          go_simp
                          with_reducible rfl
                         rotate_left
                         ·simp only [Act.put, List.setIfInBounds_toArray, List.set_cons_zero, List.set_cons_succ, i64_w, i32_w]
                          rfl
                         refine take_ (i := 2) (N := some 44) (v := ?_) (a' := ?_) #[true, true, true, false, true, true, false, false, false, false] rfl rfl (take_ofW HT_.out HW_.out (by kernel_rfl)) (fun _ _ _ h => h) (Or.inl ⟨by rfl, ?_⟩) hHeld ?_ ?_
                         rotate_left
                         ·intro w' _
                          go_simp
                          with_reducible rfl
                         rotate_left
                         ·simp only [Act.put, List.setIfInBounds_toArray, List.set_cons_zero, List.set_cons_succ, i64_w, i32_w]
                          rfl
                         refine pure_ (i := 3) (N := some 45) (v := ?_) (a' := ?_) #[true, true, true, true, true, true, false, false, false, false] rfl rfl (any_of HT_.out (by kernel_rfl)) (fun _ _ _ h => h) (Or.inl ⟨by rfl, ?_⟩) ?_ ?_
                         rotate_left
                         ·intro w'
                          go_simp
                          with_reducible rfl
                         rotate_left
                         ·simp only [Act.put, List.setIfInBounds_toArray, List.set_cons_zero, List.set_cons_succ, i64_w, i32_w]
                          rfl
                         refine pure_ (i := 8) (N := some 9) (v := ?_) (a' := ?_) #[true, true, true, true, true, true, false, false, true, false] rfl rfl (any_of HT_.out (by kernel_rfl)) (fun _ _ _ h => h) (Or.inl ⟨by rfl, ?_⟩) ?_ ?_
                         rotate_left
                         ·intro w'
                          go_simp
                          with_reducible rfl
                         rotate_left
                         ·simp only [Act.put, List.setIfInBounds_toArray, List.set_cons_zero, List.set_cons_succ, i64_w, i32_w]
                          rfl
                         refine take_ (i := 6) (N := some 48) (v := ?_) (a' := ?_) #[true, true, true, true, true, true, true, false, true, false] rfl rfl (take_ofW HT_.out HW_.out (by kernel_rfl)) (fun _ _ _ h => h) (Or.inl ⟨by rfl, ?_⟩) hHeld ?_ ?_
                         rotate_left
                         ·intro w' _
                          go_simp
                          with_reducible rfl
                         rotate_left
                         ·simp only [Act.put, List.setIfInBounds_toArray, List.set_cons_zero, List.set_cons_succ, i64_w, i32_w]
                          rfl
                         refine pure_ (i := 7) (N := some 49) (v := ?_) (a' := ?_) #[true, true, true, true, true, true, true, true, true, false] rfl rfl (any_of HT_.out (by kernel_rfl)) (fun _ _ _ h => h) (Or.inl ⟨by rfl, ?_⟩) ?_ ?_
                         rotate_left
                         ·intro w'
                          go_simp
                          with_reducible rfl
                         rotate_left
                         ·simp only [Act.put, List.setIfInBounds_toArray, List.set_cons_zero, List.set_cons_succ, i64_w, i32_w]
                          rfl
                         refine pure_ (i := 9) (N := some 10) (v := ?_) (a' := ?_) #[true, true, true, true, true, true, true, true, true, true] rfl rfl (any_of HT_.out (by kernel_rfl)) (fun _ _ _ h => h) (Or.inl ⟨by rfl, ?_⟩) ?_ ?_
                         rotate_left
                         ·intro w'
                          go_simp
                          with_reducible rfl
                         rotate_left
                         ·simp only [Act.put, List.setIfInBounds_toArray, List.set_cons_zero, List.set_cons_succ, i64_w, i32_w]
                          rfl
                         refine done_ (done_of HT_.out (by kernel_rfl)) ?_
                         try go_wp2
                         have n0_ := Aside0.mk (Kd.R_drew HO241.out)
                         have n1_ := Aside0.mk (below_drew1 HB.out)
                         clear HO241
                         clear HB
                         have HO241 := n0_
                         have HB := n1_
                         clear n0_ n1_
                         refine start_ (n := 14) (S := fun w' => True) (ds := []) #[false, false, false, false, false, false, false, false, false, false, false, false, false, false] (by kernel_rfl) rfl rfl trivial (fun hHeld => ?_); refine with_tabW impl_WordCut.tab7 impl_WordCut.bits7 (fun HT_ HW_ => ?_)
                         generalize w86.drew = w87 at HO241 HB hHeld ⊢
                         refine pure_ (i := 0) (N := some 50) (v := ?_) (a' := ?_) #[true, false, false, false, false, false, false, false, false, false, false, false, false, false] rfl rfl (any_of HT_.out (by kernel_rfl)) (fun _ _ _ h => h) (Or.inl ⟨by rfl, ?_⟩) ?_ ?_
                         rotate_left
                         ·intro w'
                          go_simp
                          with_reducible rfl
                         rotate_left
                         ·simp only [Act.put, List.setIfInBounds_toArray, List.set_cons_zero, List.set_cons_succ, i64_w, i32_w]
                          rfl
                         refine pure_ (i := 1) (N := some 51) (v := ?_) (a' := ?_) #[true, true, false, false, false, false, false, false, false, false, false, false, false, false] rfl rfl (any_of HT_.out (by kernel_rfl)) (fun _ _ _ h => h) (Or.inl ⟨by rfl, ?_⟩) ?_ ?_
                         rotate_left
                         ·intro w'
                          go_simp
                          with_reducible rfl
                         rotate_left
                         ·simp only [Act.put, List.setIfInBounds_toArray, List.set_cons_zero, List.set_cons_succ, i64_w, i32_w]
                          rfl
                         refine pure_ (i := 2) (N := some 52) (v := ?_) (a' := ?_) #[true, true, true, false, false, false, false, false, false, false, false, false, false, false] rfl rfl (any_of HT_.out (by kernel_rfl)) (fun _ _ _ h => h) (Or.inl ⟨by rfl, ?_⟩) ?_ ?_
                         rotate_left
                         ·intro w'
                          go_simp
                          with_reducible rfl
                         rotate_left
                         ·simp only [Act.put, List.setIfInBounds_toArray, List.set_cons_zero, List.set_cons_succ, i64_w, i32_w]
                          rfl
                         refine pure_ (i := 3) (N := some 53) (v := ?_) (a' := ?_) #[true, true, true, true, false, false, false, false, false, false, false, false, false, false] rfl rfl (any_of HT_.out (by kernel_rfl)) (fun _ _ _ h => h) (Or.inl ⟨by rfl, ?_⟩) ?_ ?_
                         rotate_left
                         ·intro w'
                          go_simp
                          with_reducible rfl
                         rotate_left
                         ·simp only [Act.put, List.setIfInBounds_toArray, List.set_cons_zero, List.set_cons_succ, i64_w, i32_w]
                          rfl
                         refine pure_ (i := 4) (N := some 54) (v := ?_) (a' := ?_) #[true, true, true, true, true, false, false, false, false, false, false, false, false, false] rfl rfl (any_of HT_.out (by kernel_rfl)) (fun _ _ _ h => h) (Or.inl ⟨by rfl, ?_⟩) ?_ ?_
                         rotate_left
                         ·intro w'
                          go_simp
                          with_reducible rfl
                         rotate_left
                         ·simp only [Act.put, List.setIfInBounds_toArray, List.set_cons_zero, List.set_cons_succ, i64_w, i32_w]
                          rfl
                         refine pure_ (i := 8) (N := some 58) (v := ?_) (a' := ?_) #[true, true, true, true, true, false, false, false, true, false, false, false, false, false] rfl rfl (any_of HT_.out (by kernel_rfl)) (fun _ _ _ h => h) (Or.inl ⟨by rfl, ?_⟩) ?_ ?_
                         rotate_left
                         ·intro w'
                          go_simp
                          with_reducible rfl
                         rotate_left
                         ·simp only [Act.put, List.setIfInBounds_toArray, List.set_cons_zero, List.set_cons_succ, i64_w, i32_w]
                          rfl
                         refine pure_ (i := 9) (N := some 59) (v := ?_) (a' := ?_) #[true, true, true, true, true, false, false, false, true, true, false, false, false, false] rfl rfl (any_of HT_.out (by kernel_rfl)) (fun _ _ _ h => h) (Or.inl ⟨by rfl, ?_⟩) ?_ ?_
                         rotate_left
                         ·intro w'
                          go_simp
                          with_reducible rfl
                         rotate_left
                         ·simp only [Act.put, List.setIfInBounds_toArray, List.set_cons_zero, List.set_cons_succ, i64_w, i32_w]
                          rfl
                         refine pure_ (i := 10) (N := some 60) (v := ?_) (a' := ?_) #[true, true, true, true, true, false, false, false, true, true, true, false, false, false] rfl rfl (any_of HT_.out (by kernel_rfl)) (fun _ _ _ h => h) (Or.inl ⟨by rfl, ?_⟩) ?_ ?_
                         rotate_left
                         ·intro w'
                          go_simp
                          with_reducible rfl
                         rotate_left
                         ·simp only [Act.put, List.setIfInBounds_toArray, List.set_cons_zero, List.set_cons_succ, i64_w, i32_w]
                          rfl
                         refine pure_ (i := 11) (N := some 61) (v := ?_) (a' := ?_) #[true, true, true, true, true, false, false, false, true, true, true, true, false, false] rfl rfl (any_of HT_.out (by kernel_rfl)) (fun _ _ _ h => h) (Or.inl ⟨by rfl, ?_⟩) ?_ ?_
                         rotate_left
                         ·intro w'
                          go_simp
                          with_reducible rfl
                         rotate_left
                         ·simp only [Act.put, List.setIfInBounds_toArray, List.set_cons_zero, List.set_cons_succ, i64_w, i32_w]
                          rfl
                         refine one_ (i := 5) (N := some 55) #[true, true, true, true, true, true, false, false, true, true, true, true, false, false] rfl rfl (one_of HT_.out (by kernel_rfl)) (by decide) (fun K hK => ?_)
                         refine Kd.R_lit_step (Kd.int .u8) _ 5 ?hg (N := 55) ?hd (xs := ([Go.bits .andNot .u8 (bt a0 a2) 32] : List Int)) (inner := [.int .u8 (Go.bits .andNot .u8 (bt a0 a2) 32)]) (ok := fun _ => True) (okp := fun _ => True) ?hr ?hp (fun _ hk => hk) trivial (Below.refl _ _) (Nat.le_refl _) (by simp) ?_; (case hd => rfl); (case hg => rfl); (case hr => first | (go_simp; done) | (go_simp; rfl)); (case hp => exact (Reps.one (show Kd.M (Kd.int .u8) _ _ _ (Go.bits .andNot .u8 (bt a0 a2) 32) [.int .u8 (Go.bits .andNot .u8 (bt a0 a2) 32)] from rfl) (Reps.none _ _)))
                         intro v244 w88 ho89 hb hg_ hnew_
                         clear hg_ hnew_
                         (first | rw [← Ny243.out] at ho89 | (simp only [Int.reduceToNat] at ho89; rw [← Ny243.out] at ho89))
                         have n0_ := Aside0.mk (Kd.R_below (by (with_reducible repeat (first | apply Kd.R_alloc | apply Kd.R_drewN | apply Kd.R_drew)); exact HO241.out) hb)
                         have n1_ := Aside0.mk (Kd.R_lower ho89 (below_size (by repeat (first | (with_reducible first | exact HB.out | apply below_alloc | apply pw_below_drewN | apply below_drew1) | exact HB.out))))
                         have n2_ := Aside0.mk (below_step (by repeat (first | (with_reducible first | exact HB.out | apply below_alloc | apply pw_below_drewN | apply below_drew1) | exact HB.out)) hb)
                         clear HO241
                         clear HB
                         have HO241 := n0_
                         have HO245 := n1_
                         have HB := n2_
                         clear n0_ n1_ n2_
                         clear hb ho89
                         refine hK.out _ _ trivial (fun hHeld => ?_)
                         clear hK K
                         refine norm_ (a' := ?_) ?_ ?_
                         rotate_left
                         ·show Act.put _ (some 55) _ = _
                          simp only [Act.put, List.setIfInBounds_toArray, List.set_cons_zero, List.set_cons_succ, i64_w, i32_w]
                          rfl
                         refine one_ (i := 6) (N := some 56) #[true, true, true, true, true, true, true, false, true, true, true, true, false, false] rfl rfl (one_of HT_.out (by kernel_rfl)) (by decide) (fun K hK => ?_)
                         have hcv90 := own_string (P := Tryd.prog) Tryd.underlying22 Tryd.underlying5 Tryd.underlying9 (Kd.own_of_R HO245.out)
                         refine value_ (w1 := ?_) (v := ?_) (by rfl) rfl ?_ ?_
                         rotate_left 2
                         ·go_simp
                          constructor
                          ·rfl
                          ·rfl
                         clear hcv90
                         refine hK.out _ _ trivial (fun hHeld => ?_)
                         clear hK K
                         refine norm_ (a' := ?_) ?_ ?_
                         rotate_left
                         ·show Act.put _ (some 56) _ = _
                          simp only [Act.put, List.setIfInBounds_toArray, List.set_cons_zero, List.set_cons_succ, i64_w, i32_w]
                          rfl
                         refine pure_ (i := 7) (N := some 57) (v := ?_) (a' := ?_) #[true, true, true, true, true, true, true, true, true, true, true, true, false, false] rfl rfl (any_of HT_.out (by kernel_rfl)) (fun _ _ _ h => h) (Or.inl ⟨by rfl, ?_⟩) ?_ ?_
                         rotate_left
                         ·intro w'
                          go_simp
                          with_reducible rfl
                         rotate_left
                         ·simp only [Act.put, List.setIfInBounds_toArray, List.set_cons_zero, List.set_cons_succ, i64_w, i32_w]
                          rfl
                         refine pure_ (i := 12) (N := some 62) (v := ?_) (a' := ?_) #[true, true, true, true, true, true, true, true, true, true, true, true, true, false] rfl rfl (any_of HT_.out (by kernel_rfl)) (fun _ _ _ h => h) (Or.inl ⟨by rfl, ?_⟩) ?_ ?_
                         rotate_left
                         ·intro w'
                          go_simp
                          with_reducible rfl
                         rotate_left
                         ·simp only [Act.put, List.setIfInBounds_toArray, List.set_cons_zero, List.set_cons_succ, i64_w, i32_w]
                          rfl
                         refine pure_ (i := 13) (N := some 11) (v := ?_) (a' := ?_) #[true, true, true, true, true, true, true, true, true, true, true, true, true, true] rfl rfl (any_of HT_.out (by kernel_rfl)) (fun _ _ _ h => h) (Or.inl ⟨by rfl, ?_⟩) ?_ ?_
                         rotate_left
                         ·intro w'
                          go_simp
                          with_reducible rfl
                         rotate_left
                         ·simp only [Act.put, List.setIfInBounds_toArray, List.set_cons_zero, List.set_cons_succ, i64_w, i32_w]
                          rfl
                         refine done_ (done_of HT_.out (by kernel_rfl)) ?_
                         try go_wp2
                         have n0_ := Aside0.mk (Kd.R_drew HO241.out)
                         have n1_ := Aside0.mk (Kd.R_drew HO245.out)
                         have n2_ := Aside0.mk (below_drew1 HB.out)
                         clear HO241
                         clear HO245
                         clear HB
                         have HO241 := n0_
                         have HO245 := n1_
                         have HB := n2_
                         clear n0_ n1_ n2_
                         have p37 : 0 ≤ (a2 : Int) := of_decide_eq_true (by first | (with_reducible assumption) | assumption)
                         have q37 : a2 < (a0.size : Int) := of_decide_eq_true (by first | (with_reducible assumption) | assumption)
                         have hx37 := bt_at a0 a2
                         replace p37 := eq_true p37
                         replace q37 := eq_true q37
                         have p40 : 0 ≤ ((rd t239 a2) : Int) := of_decide_eq_true (by first | (with_reducible assumption) | assumption)
                         have q40 : (rd t239 a2) < (a0.size : Int) := of_decide_eq_true (by first | (with_reducible assumption) | assumption)
                         have hx40 := bt_at a0 (rd t239 a2)
                         replace p40 := eq_true p40
                         replace q40 := eq_true q40
                         refine start_ (n := 7) (S := fun w' => True) (ds := []) #[false, false, false, false, false, false, false] (by kernel_rfl) rfl rfl trivial (fun hHeld => ?_)
                         generalize w88.drew = w91 at HO241 HO245 HB hHeld ⊢
                         refine pure_ (i := 0) (N := some 63) (v := ?_) (a' := ?_) #[true, false, false, false, false, false, false] rfl rfl (by kernel_rfl) (fun _ _ _ h => h) (Or.inl ⟨by rfl, ?_⟩) ?_ ?_
                         rotate_left
                         ·intro w'
                          go_simp
                          with_reducible rfl
                         rotate_left
                         ·simp only [Act.put, List.setIfInBounds_toArray, List.set_cons_zero, List.set_cons_succ, i64_w, i32_w]
                          rfl
                         refine pure_ (i := 1) (N := some 64) (v := ?_) (a' := ?_) #[true, true, false, false, false, false, false] rfl rfl (by kernel_rfl) (fun _ _ _ h => h) (Or.inl ⟨by rfl, ?_⟩) ?_ ?_
                         rotate_left
                         ·intro w'
                          go_simp
                          with_reducible rfl
                         rotate_left
                         ·simp only [Act.put, List.setIfInBounds_toArray, List.set_cons_zero, List.set_cons_succ, i64_w, i32_w]
                          rfl
                         refine pure_ (i := 3) (N := some 66) (v := ?_) (a' := ?_) #[true, true, false, true, false, false, false] rfl rfl (by kernel_rfl) (fun _ _ _ h => h) (Or.inl ⟨by rfl, ?_⟩) ?_ ?_
                         rotate_left
                         ·intro w'
                          go_simp
                          with_reducible rfl
                         rotate_left
                         ·simp only [Act.put, List.setIfInBounds_toArray, List.set_cons_zero, List.set_cons_succ, i64_w, i32_w]
                          rfl
                         refine pure_ (i := 4) (N := some 67) (v := ?_) (a' := ?_) #[true, true, false, true, true, false, false] rfl rfl (by kernel_rfl) (fun _ _ _ h => h) (Or.inl ⟨by rfl, ?_⟩) ?_ ?_
                         rotate_left
                         ·intro w'
                          go_simp
                          with_reducible rfl
                         rotate_left
                         ·simp only [Act.put, List.setIfInBounds_toArray, List.set_cons_zero, List.set_cons_succ, i64_w, i32_w]
                          rfl
                         refine take_ (i := 2) (N := some 65) (v := ?_) (a' := ?_) #[true, true, true, true, true, false, false] rfl rfl (by kernel_rfl) (fun _ _ _ h => h) (Or.inl ⟨by rfl, ?_⟩) hHeld ?_ ?_
                         rotate_left
                         ·intro w' _
                          go_simp
                          with_reducible rfl
                         rotate_left
                         ·simp only [Act.put, List.setIfInBounds_toArray, List.set_cons_zero, List.set_cons_succ, i64_w, i32_w]
                          rfl
                         refine take_ (i := 5) (N := some 68) (v := ?_) (a' := ?_) #[true, true, true, true, true, true, false] rfl rfl (by kernel_rfl) (fun _ _ _ h => h) (Or.inl ⟨by rfl, ?_⟩) hHeld ?_ ?_
                         rotate_left
                         ·intro w' _
                          go_simp
                          with_reducible rfl
                         rotate_left
                         ·simp only [Act.put, List.setIfInBounds_toArray, List.set_cons_zero, List.set_cons_succ, i64_w, i32_w]
                          rfl
                         refine pure_ (i := 6) (N := some 69) (v := ?_) (a' := ?_) #[true, true, true, true, true, true, true] rfl rfl (by kernel_rfl) (fun _ _ _ h => h) (Or.inl ⟨by rfl, ?_⟩) ?_ ?_
                         rotate_left
                         ·intro w'
                          go_simp
                          with_reducible rfl
                         rotate_left
                         ·simp only [Act.put, List.setIfInBounds_toArray, List.set_cons_zero, List.set_cons_succ, i64_w, i32_w]
                          rfl
                         refine done_ (by kernel_rfl) ?_
                         try go_wp2
                         have n0_ := Aside0.mk (Kd.R_drew HO241.out)
                         have n1_ := Aside0.mk (Kd.R_drew HO245.out)
                         have n2_ := Aside0.mk (below_drew1 HB.out)
                         clear HO241
                         clear HO245
                         clear HB
                         have HO241 := n0_
                         have HO245 := n1_
                         have HB := n2_
                         clear n0_ n1_ n2_
                         refine start_ (n := 17) (S := fun w' => True) (ds := []) #[false, false, false, false, false, false, false, false, false, false, false, false, false, false, false, false, false] (by kernel_rfl) rfl rfl trivial (fun hHeld => ?_); refine with_tabW impl_WordCut.tab10 impl_WordCut.bits10 (fun HT_ HW_ => ?_)
                         generalize w91.drew = w92 at HO241 HO245 HB hHeld ⊢
                         refine pure_ (i := 0) (N := some 72) (v := ?_) (a' := ?_) #[true, false, false, false, false, false, false, false, false, false, false, false, false, false, false, false, false] rfl rfl (any_of HT_.out (by kernel_rfl)) (fun _ _ _ h => h) (Or.inl ⟨by rfl, ?_⟩) ?_ ?_
                         rotate_left
                         ·intro w'
                          go_simp
                          with_reducible rfl
                         rotate_left
                         ·simp only [Act.put, List.setIfInBounds_toArray, List.set_cons_zero, List.set_cons_succ, i64_w, i32_w]
                          rfl
                         refine pure_ (i := 1) (N := some 73) (v := ?_) (a' := ?_) #[true, true, false, false, false, false, false, false, false, false, false, false, false, false, false, false, false] rfl rfl (any_of HT_.out (by kernel_rfl)) (fun _ _ _ h => h) (Or.inl ⟨by rfl, ?_⟩) ?_ ?_
                         rotate_left
                         ·intro w'
                          go_simp
                          with_reducible rfl
                         rotate_left
                         ·simp only [Act.put, List.setIfInBounds_toArray, List.set_cons_zero, List.set_cons_succ, i64_w, i32_w]
                          rfl
                         refine pure_ (i := 2) (N := some 74) (v := ?_) (a' := ?_) #[true, true, true, false, false, false, false, false, false, false, false, false, false, false, false, false, false] rfl rfl (any_of HT_.out (by kernel_rfl)) (fun _ _ _ h => h) (Or.inl ⟨by rfl, ?_⟩) ?_ ?_
                         rotate_left
                         ·intro w'
                          go_simp
                          with_reducible rfl
                         rotate_left
                         ·simp only [Act.put, List.setIfInBounds_toArray, List.set_cons_zero, List.set_cons_succ, i64_w, i32_w]
                          rfl
                         refine pure_ (i := 3) (N := some 75) (v := ?_) (a' := ?_) #[true, true, true, true, false, false, false, false, false, false, false, false, false, false, false, false, false] rfl rfl (any_of HT_.out (by kernel_rfl)) (fun _ _ _ h => h) (Or.inl ⟨by rfl, ?_⟩) ?_ ?_
                         rotate_left
                         ·intro w'
                          go_simp
                          with_reducible rfl
                         rotate_left
                         ·simp only [Act.put, List.setIfInBounds_toArray, List.set_cons_zero, List.set_cons_succ, i64_w, i32_w]
                          rfl
                         refine pure_ (i := 4) (N := some 76) (v := ?_) (a' := ?_) #[true, true, true, true, true, false, false, false, false, false, false, false, false, false, false, false, false] rfl rfl (any_of HT_.out (by kernel_rfl)) (fun _ _ _ h => h) (Or.inl ⟨by rfl, ?_⟩) ?_ ?_
                         rotate_left
                         ·intro w'
                          go_simp
                          with_reducible rfl
                         rotate_left
                         ·simp only [Act.put, List.setIfInBounds_toArray, List.set_cons_zero, List.set_cons_succ, i64_w, i32_w]
                          rfl
                         refine pure_ (i := 5) (N := some 77) (v := ?_) (a' := ?_) #[true, true, true, true, true, true, false, false, false, false, false, false, false, false, false, false, false] rfl rfl (any_of HT_.out (by kernel_rfl)) (fun _ _ _ h => h) (Or.inl ⟨by rfl, ?_⟩) ?_ ?_
                         rotate_left
                         ·intro w'
                          go_simp
                          with_reducible rfl
                         rotate_left
                         ·simp only [Act.put, List.setIfInBounds_toArray, List.set_cons_zero, List.set_cons_succ, i64_w, i32_w]
                          rfl
                         refine pure_ (i := 9) (N := some 81) (v := ?_) (a' := ?_) #[true, true, true, true, true, true, false, false, false, true, false, false, false, false, false, false, false] rfl rfl (any_of HT_.out (by kernel_rfl)) (fun _ _ _ h => h) (Or.inl ⟨by rfl, ?_⟩) ?_ ?_
                         rotate_left
                         ·intro w'
                          go_simp
                          with_reducible rfl
                         rotate_left
                         ·simp only [Act.put, List.setIfInBounds_toArray, List.set_cons_zero, List.set_cons_succ, i64_w, i32_w]
                          rfl
                         refine pure_ (i := 10) (N := some 82) (v := ?_) (a' := ?_) #[true, true, true, true, true, true, false, false, false, true, true, false, false, false, false, false, false] rfl rfl (any_of HT_.out (by kernel_rfl)) (fun _ _ _ h => h) (Or.inl ⟨by rfl, ?_⟩) ?_ ?_
                         rotate_left
                         ·intro w'
                          go_simp
                          with_reducible rfl
                         rotate_left
                         ·simp only [Act.put, List.setIfInBounds_toArray, List.set_cons_zero, List.set_cons_succ, i64_w, i32_w]
                          rfl
                         refine pure_ (i := 11) (N := some 83) (v := ?_) (a' := ?_) #[true, true, true, true, true, true, false, false, false, true, true, true, false, false, false, false, false] rfl rfl (any_of HT_.out (by kernel_rfl)) (fun _ _ _ h => h) (Or.inl ⟨by rfl, ?_⟩) ?_ ?_
                         rotate_left
                         ·intro w'
                          go_simp
                          with_reducible rfl
                         rotate_left
                         ·simp only [Act.put, List.setIfInBounds_toArray, List.set_cons_zero, List.set_cons_succ, i64_w, i32_w]
                          rfl
                         refine pure_ (i := 13) (N := some 85) (v := ?_) (a' := ?_) #[true, true, true, true, true, true, false, false, false, true, true, true, false, true, false, false, false] rfl rfl (any_of HT_.out (by kernel_rfl)) (fun _ _ _ h => h) (Or.inl ⟨by rfl, ?_⟩) ?_ ?_
                         rotate_left
                         ·intro w'
                          go_simp
                          with_reducible rfl
                         rotate_left
                         ·simp only [Act.put, List.setIfInBounds_toArray, List.set_cons_zero, List.set_cons_succ, i64_w, i32_w]
                          rfl
                         refine one_ (i := 6) (N := some 78) #[true, true, true, true, true, true, true, false, false, true, true, true, false, true, false, false, false] rfl rfl (one_of HT_.out (by kernel_rfl)) (by decide) (fun K hK => ?_)
                         refine Kd.R_lit_step (Kd.int .u8) _ 5 ?hg (N := 78) ?hd (xs := ([Go.bits .or .u8 (bt a0 a2) 32] : List Int)) (inner := [.int .u8 (Go.bits .or .u8 (bt a0 a2) 32)]) (ok := fun _ => True) (okp := fun _ => True) ?hr ?hp (fun _ hk => hk) trivial (Below.refl _ _) (Nat.le_refl _) (by simp) ?_; (case hd => rfl); (case hg => rfl); (case hr => first | (go_simp; done) | (go_simp; rfl)); (case hp => exact (Reps.one (show Kd.M (Kd.int .u8) _ _ _ (Go.bits .or .u8 (bt a0 a2) 32) [.int .u8 (Go.bits .or .u8 (bt a0 a2) 32)] from rfl) (Reps.none _ _)))
                         intro v251 w93 ho94 hb hg_ hnew_
                         clear hg_ hnew_
                         (first | rw [← Ny250.out] at ho94 | (simp only [Int.reduceToNat] at ho94; rw [← Ny250.out] at ho94))
                         have n0_ := Aside0.mk (Kd.R_below (by (with_reducible repeat (first | apply Kd.R_alloc | apply Kd.R_drewN | apply Kd.R_drew)); exact HO241.out) hb)
                         have n1_ := Aside0.mk (Kd.R_elder' (by (with_reducible repeat (first | apply Kd.R_alloc | apply Kd.R_drewN | apply Kd.R_drew)); exact HO245.out) (Kd.R_base ho94) hb)
                         have n2_ := Aside0.mk (Kd.R_lower (Kd.R_new' ho94 (Kd.R_lt (by (with_reducible repeat (first | apply Kd.R_alloc | apply Kd.R_drewN | apply Kd.R_drew)); exact HO245.out))) (below_size (by repeat (first | (with_reducible first | exact HB.out | apply below_alloc | apply pw_below_drewN | apply below_drew1) | exact HB.out))))
                         have n3_ := Aside0.mk (below_step (by repeat (first | (with_reducible first | exact HB.out | apply below_alloc | apply pw_below_drewN | apply below_drew1) | exact HB.out)) hb)
                         clear HO241
                         clear HO245
                         clear HB
                         have HO241 := n0_
                         have HO245 := n1_
                         have HO252 := n2_
                         have HB := n3_
                         clear n0_ n1_ n2_ n3_
                         clear hb ho94
                         refine hK.out _ _ trivial (fun hHeld => ?_)
                         clear hK K
                         refine norm_ (a' := ?_) ?_ ?_
                         rotate_left
                         ·show Act.put _ (some 78) _ = _
                          simp only [Act.put, List.setIfInBounds_toArray, List.set_cons_zero, List.set_cons_succ, i64_w, i32_w]
                          rfl
                         refine one_ (i := 7) (N := some 79) #[true, true, true, true, true, true, true, true, false, true, true, true, false, true, false, false, false] rfl rfl (one_of HT_.out (by kernel_rfl)) (by decide) (fun K hK => ?_)
                         have hcv95 := own_string (P := Tryd.prog) Tryd.underlying22 Tryd.underlying5 Tryd.underlying9 (Kd.own_of_R HO252.out)
                         refine value_ (w1 := ?_) (v := ?_) (by rfl) rfl ?_ ?_
                         rotate_left 2
                         ·go_simp
                          constructor
                          ·rfl
                          ·rfl
                         clear hcv95
                         refine hK.out _ _ trivial (fun hHeld => ?_)
                         clear hK K
                         refine norm_ (a' := ?_) ?_ ?_
                         rotate_left
                         ·show Act.put _ (some 79) _ = _
                          simp only [Act.put, List.setIfInBounds_toArray, List.set_cons_zero, List.set_cons_succ, i64_w, i32_w]
                          rfl
                         refine pure_ (i := 8) (N := some 80) (v := ?_) (a' := ?_) #[true, true, true, true, true, true, true, true, true, true, true, true, false, true, false, false, false] rfl rfl (any_of HT_.out (by kernel_rfl)) (fun _ _ _ h => h) (Or.inl ⟨by rfl, ?_⟩) ?_ ?_
                         rotate_left
                         ·intro w'
                          go_simp
                          with_reducible rfl
                         rotate_left
                         ·simp only [Act.put, List.setIfInBounds_toArray, List.set_cons_zero, List.set_cons_succ, i64_w, i32_w]
                          rfl
                         refine pure_ (i := 12) (N := some 84) (v := ?_) (a' := ?_) #[true, true, true, true, true, true, true, true, true, true, true, true, true, true, false, false, false] rfl rfl (any_of HT_.out (by kernel_rfl)) (fun _ _ _ h => h) (Or.inl ⟨by rfl, ?_⟩) ?_ ?_
                         rotate_left
                         ·intro w'
                          go_simp
                          with_reducible rfl
                         rotate_left
                         ·simp only [Act.put, List.setIfInBounds_toArray, List.set_cons_zero, List.set_cons_succ, i64_w, i32_w]
                          rfl
                         refine pure_ (i := 14) (N := some 86) (v := ?_) (a' := ?_) #[true, true, true, true, true, true, true, true, true, true, true, true, true, true, true, false, false] rfl rfl (any_of HT_.out (by kernel_rfl)) (fun _ _ _ h => h) (Or.inl ⟨by rfl, ?_⟩) ?_ ?_
                         rotate_left
                         ·intro w'
                          go_simp
                          with_reducible rfl
                         rotate_left
                         ·simp only [Act.put, List.setIfInBounds_toArray, List.set_cons_zero, List.set_cons_succ, i64_w, i32_w]
                          rfl
                         refine pure_ (i := 15) (N := some 6) (v := ?_) (a' := ?_) #[true, true, true, true, true, true, true, true, true, true, true, true, true, true, true, true, false] rfl rfl (any_of HT_.out (by kernel_rfl)) (fun _ _ _ h => h) (Or.inl ⟨by rfl, ?_⟩) ?_ ?_
                         rotate_left
                         ·intro w'
                          go_simp
                          with_reducible rfl
                         rotate_left
                         ·simp only [Act.put, List.setIfInBounds_toArray, List.set_cons_zero, List.set_cons_succ, i64_w, i32_w]
                          rfl
                         refine pure_ (i := 16) (N := some 7) (v := ?_) (a' := ?_) #[true, true, true, true, true, true, true, true, true, true, true, true, true, true, true, true, true] rfl rfl (any_of HT_.out (by kernel_rfl)) (fun _ _ _ h => h) (Or.inl ⟨by rfl, ?_⟩) ?_ ?_
                         rotate_left
                         ·intro w'
                          go_simp
                          with_reducible rfl
                         rotate_left
                         ·simp only [Act.put, List.setIfInBounds_toArray, List.set_cons_zero, List.set_cons_succ, i64_w, i32_w]
                          rfl
                         refine done_ (done_of HT_.out (by kernel_rfl)) ?_
                         try go_wp2
                         go_ret2
                         exact ⟨by first | rfl | (simp [errW_none, errW_some] <;> rfl) | (simp only [← hji25, ← hji70]; first | rfl | (simp [errW_none, errW_some] <;> rfl)) | (simp [*, errW_none, errW_some] <;> rfl), by repeat (first | (with_reducible first | exact HB.out | apply below_alloc | apply pw_below_drewN | apply below_drew1) | exact HB.out)⟩
                        ·rw [if_neg c82] at H
                         exact absurd H (by simp)
                       ·rw [if_neg c80] at H
                        exact absurd H (by simp)
                      ·rw [if_neg c78] at H
                       exact absurd H (by simp)
                     ·rw [if_neg c75] at H
                      exact absurd H (by simp)
                    ·rw [if_neg c73] at H
                     exact absurd H (by simp)
                   ·rw [if_neg c72] at H
                    exact absurd H (by simp)
                  ·rw [if_neg c71] at H
                   exact absurd H (by simp)
                ·rw [if_neg c39] at H
                 exact absurd H (by simp)
               ·rw [if_neg c38] at H
                exact absurd H (by simp)
              ·rw [if_neg c35] at H
               exact absurd H (by simp)
             ·rw [if_neg c33] at H
              exact absurd H (by simp)
            ·rw [if_neg c32] at H
             exact absurd H (by simp)
           ·rw [if_neg c31] at H
            exact absurd H (by simp)
          ·rw [if_neg c29] at H
           exact absurd H (by simp)
         ·rw [if_neg c27] at H
          exact absurd H (by simp)
        ·rw [if_neg c26] at H
         exact absurd H (by simp)
       ·rw [if_neg c22] at H
        exact absurd H (by simp)
     ·rw [if_neg c18] at H
      exact absurd H (by simp)
    ·rw [if_neg c17] at H
     exact absurd H (by simp)

end Go.Proofs.YtpfnchjbbagmdaaDoor.PFnWordCut
