-- Made by a program of this session (wip/tools) out of the loaded program; not trusted: Lean checks it.
import Derived.Test.YtpfnchjbbagmdaaDoorPFnWordCutx0
import Derived.Test.YtpfnchjbbagmdaaDoorPFnWordCutx1
import Derived.Test.YtpfnchjbbagmdaaDoorPFnWordCutx3
import Derived.Test.YtpfnchjbbagmdaaDoorPFnWordCutx5
import Derived.Test.YtpfnchjbbagmdaaDoorPFnWordCutx7
namespace Go.Proofs.YtpfnchjbbagmdaaDoor.PFnWordCut
open Go.RowKit Go.Proofs.YtpfnchjbbagmdaaDoorW.PrintWords Go.Proofs.YtpfnchjbbagmdaaDoorW.PrintLast Go.Proofs.YtpfnchjbbagmdaaDoorW.PrintMore
attribute [local go_sem] max2_int min2_int max_two min_two max_three min_three max_four min_four   -- for this text's walks alone
set_option linter.unusedVariables false
set_option linter.unusedSimpArgs false

/-! ### spec_WordCut: function 30 -/
def spec_WordCut.j0 : Nat → ByteArray → Int → Int → Bool → Option (ByteArray × Bool)
  | 0, _, _, _, _ => none
  | k + 1, x0, x1, x2, x38 => if x38 = true then (some ((⟨#[]⟩ : ByteArray), false)) else ((spec_l8Partner.f k x0 x2).bind fun t263 => (if 0 ≤ x2 then (if x2 < (x0.size : Int) then ((spec_l8Letter.f k (bt x0 x2)).bind fun t264 => (if x2 ≤ (x0.size : Int) then (if 0 ≤ (wrap64 (x2 + 1)) then (if (wrap64 (x2 + 1)) ≤ x1 then (if x1 ≤ (x0.size : Int) then ((spec_l8Name.f t264 true).bind fun t265 => (if (x0.extract ((wrap64 (x2 + 1)) : Int).toNat (x1 : Int).toNat).size + t265.size ≤ 9223372036854775807 then (if ((x0.extract ((wrap64 (x2 + 1)) : Int).toNat (x1 : Int).toNat) ++ t265).size + (x0.extract 0 (x2 : Int).toNat).size ≤ 9223372036854775807 then (if 0 ≤ (wrap64 (t263 + 1)) then (if (wrap64 (t263 + 1)) ≤ (x0.size : Int) then ((spec_l8Name.f t264 false).bind fun t266 => (if (x0.extract ((wrap64 (t263 + 1)) : Int).toNat x0.size).size + t266.size ≤ 9223372036854775807 then (if 0 ≤ x1 then (if x1 ≤ t263 then (if t263 ≤ (x0.size : Int) then (if ((x0.extract ((wrap64 (t263 + 1)) : Int).toNat x0.size) ++ t266).size + (x0.extract (x1 : Int).toNat (t263 : Int).toNat).size ≤ 9223372036854775807 then ((spec_l8Small.f (bt x0 x2)).bind fun t267 => (if 0 ≤ t263 then (if t263 < (x0.size : Int) then ((spec_l8Small.f (bt x0 t263)).bind fun t268 => (if (t267 == t268) = true then ((spec_l8Back.f k (((x0.extract ((wrap64 (t263 + 1)) : Int).toNat x0.size) ++ t266) ++ (x0.extract (x1 : Int).toNat (t263 : Int).toNat))).bind fun t269 => (if (((x0.extract ((wrap64 (x2 + 1)) : Int).toNat (x1 : Int).toNat) ++ t265) ++ (x0.extract 0 (x2 : Int).toNat)).size + t269.size ≤ 9223372036854775807 then (some (((((x0.extract ((wrap64 (x2 + 1)) : Int).toNat (x1 : Int).toNat) ++ t265) ++ (x0.extract 0 (x2 : Int).toNat)) ++ t269), true)) else (none))) else (if (((x0.extract ((wrap64 (x2 + 1)) : Int).toNat (x1 : Int).toNat) ++ t265) ++ (x0.extract 0 (x2 : Int).toNat)).size + (((x0.extract ((wrap64 (t263 + 1)) : Int).toNat x0.size) ++ t266) ++ (x0.extract (x1 : Int).toNat (t263 : Int).toNat)).size ≤ 9223372036854775807 then (some (((((x0.extract ((wrap64 (x2 + 1)) : Int).toNat (x1 : Int).toNat) ++ t265) ++ (x0.extract 0 (x2 : Int).toNat)) ++ (((x0.extract ((wrap64 (t263 + 1)) : Int).toNat x0.size) ++ t266) ++ (x0.extract (x1 : Int).toNat (t263 : Int).toNat))), true)) else (none)))) else (none)) else (none))) else (none)) else (none)) else (none)) else (none)) else (none))) else (none)) else (none)) else (none)) else (none))) else (none)) else (none)) else (none)) else (none))) else (none)) else (none)))
def spec_WordCut.f (k : Nat) (a0 : ByteArray) (a1 : Int) (a2 : Int) : Option (ByteArray × Bool) := (spec_WordValid.f k a0).bind fun t259 => (if t259 = true then ((spec_l6In.f a1 1 (wrap64 ((a0.size : Int) - 1))).bind fun t260 => (if t260 = true then ((spec_l6In.f a2 0 (wrap64 (a1 - 1))).bind fun t261 => (if t261 = true then ((spec_l8Partner.f k a0 a2).bind fun t262 => (spec_WordCut.j0 k a0 a1 a2 (decide (t262 < a1)))) else (spec_WordCut.j0 k a0 a1 a2 true))) else (spec_WordCut.j0 k a0 a1 a2 true))) else (spec_WordCut.j0 k a0 a1 a2 true))
def spec_WordCut.T8 : Bool × List (List Nat × List Nat) := (true, [([], []), ([], []), ([1], [1]), ([0, 2], [0, 2]), ([], []), ([4], [4]), ([3, 5], [3, 5]), ([], []), ([], []), ([], []), ([7, 8, 9], [7, 8, 9]), ([6, 10], [6, 10]), ([11, 5, 0, 1, 2, 3, 4, 5, 6, 7, 8, 9, 10, 11], [11])])
def spec_WordCut.B8 : List Nat := [0, 0, 2, 7, 0, 16, 63, 0, 0, 0, 896, 2047, 4095]
theorem spec_WordCut.tab8 : rtab .any (opsOf Tryd.f30 8) = spec_WordCut.T8 := by kernel_rfl
theorem spec_WordCut.bits8 : waitsOk spec_WordCut.T8.2 spec_WordCut.B8 = true := by kernel_rfl
def spec_WordCut.T9 : Bool × List (List Nat × List Nat) := (true, [([], []), ([], []), ([0, 1], [0, 1]), ([2], [2]), ([], []), ([], []), ([4, 5], [4, 5]), ([6, 3], [6]), ([3, 7], [3, 7])])
def spec_WordCut.B9 : List Nat := [0, 0, 3, 7, 0, 0, 48, 127, 255]
theorem spec_WordCut.tab9 : rtab .any (opsOf Tryd.f30 9) = spec_WordCut.T9 := by kernel_rfl
theorem spec_WordCut.bits9 : waitsOk spec_WordCut.T9.2 spec_WordCut.B9 = true := by kernel_rfl
set_option maxHeartbeats 8000000 in
set_option maxRecDepth 100000 in
theorem spec_WordCut.calls (k : Nat) (a0 : ByteArray) (a1 : Int) (a2 : Int) (r1 : ByteArray) (r2 : Bool) (w : World) (h : spec_WordCut.f k a0 a1 a2 = some (r1, r2)) :
    Calls Tryd.prog 30 #[.string a0, .int .i64 a1, .int .i64 a2] w fun e w' => e = .returned (.tuple #[.string r1, .bool r2]) ∧ Below w.heap.size w w' := by
 have HB := Aside0.mk (Below.refl w.heap.size w)
 have H : ((spec_WordValid.f k a0).bind fun t259 => (if t259 = true then ((spec_l6In.f a1 1 (wrap64 ((a0.size : Int) - 1))).bind fun t260 => (if t260 = true then ((spec_l6In.f a2 0 (wrap64 (a1 - 1))).bind fun t261 => (if t261 = true then ((spec_l8Partner.f k a0 a2).bind fun t262 => (spec_WordCut.j0 k a0 a1 a2 (decide (t262 < a1)))) else (spec_WordCut.j0 k a0 a1 a2 true))) else (spec_WordCut.j0 k a0 a1 a2 true))) else (spec_WordCut.j0 k a0 a1 a2 true))) = some (r1, r2) := h
 clear h
 have HC4 := Aside0.mk H
 clear H
 go_enter Tryd.func30, Tryd.ntmps30
 go_upto_region 1 with (fail)
 go_cut [38] (fun v38 wc => ∃ (kq : Nat) (x38_3 : Bool), v38 = .bool x38_3 ∧ Aside0 (spec_WordCut.j0 kq a0 a1 a2 x38_3 = some (r1, r2)) ∧ Aside0 (kq ≤ k) ∧ Aside0 (Below w.heap.size w wc))
 case first =>
  have H := HC4.out
  clear HC4
  replace H := Option.bind_eq_some_iff.mp H
  obtain ⟨t259, A50, H⟩ := H
  replace H : (if t259 = true then ((spec_l6In.f a1 1 (wrap64 ((a0.size : Int) - 1))).bind fun t260 => (if t260 = true then ((spec_l6In.f a2 0 (wrap64 (a1 - 1))).bind fun t261 => (if t261 = true then ((spec_l8Partner.f k a0 a2).bind fun t262 => (spec_WordCut.j0 k a0 a1 a2 (decide (t262 < a1)))) else (spec_WordCut.j0 k a0 a1 a2 true))) else (spec_WordCut.j0 k a0 a1 a2 true))) else (spec_WordCut.j0 k a0 a1 a2 true)) = some (r1, r2) := H
  have A5 := Aside0.mk A50
  clear A50
  by_cases c6 : t259 = true
  ·subst c6
   have H1 : ((spec_l6In.f a1 1 (wrap64 ((a0.size : Int) - 1))).bind fun t260 => (if t260 = true then ((spec_l6In.f a2 0 (wrap64 (a1 - 1))).bind fun t261 => (if t261 = true then ((spec_l8Partner.f k a0 a2).bind fun t262 => (spec_WordCut.j0 k a0 a1 a2 (decide (t262 < a1)))) else (spec_WordCut.j0 k a0 a1 a2 true))) else (spec_WordCut.j0 k a0 a1 a2 true))) = some (r1, r2) := by rw [if_pos rfl] at H; exact H
   clear H
   have H := H1
   clear H1
   replace H := Option.bind_eq_some_iff.mp H
   obtain ⟨t260, A70, H⟩ := H
   replace H : (if t260 = true then ((spec_l6In.f a2 0 (wrap64 (a1 - 1))).bind fun t261 => (if t261 = true then ((spec_l8Partner.f k a0 a2).bind fun t262 => (spec_WordCut.j0 k a0 a1 a2 (decide (t262 < a1)))) else (spec_WordCut.j0 k a0 a1 a2 true))) else (spec_WordCut.j0 k a0 a1 a2 true)) = some (r1, r2) := H
   have A7 := Aside0.mk A70
   clear A70
   by_cases c8 : t260 = true
   ·subst c8
    have H1 : ((spec_l6In.f a2 0 (wrap64 (a1 - 1))).bind fun t261 => (if t261 = true then ((spec_l8Partner.f k a0 a2).bind fun t262 => (spec_WordCut.j0 k a0 a1 a2 (decide (t262 < a1)))) else (spec_WordCut.j0 k a0 a1 a2 true))) = some (r1, r2) := by rw [if_pos rfl] at H; exact H
    clear H
    have H := H1
    clear H1
    replace H := Option.bind_eq_some_iff.mp H
    obtain ⟨t261, A90, H⟩ := H
    replace H : (if t261 = true then ((spec_l8Partner.f k a0 a2).bind fun t262 => (spec_WordCut.j0 k a0 a1 a2 (decide (t262 < a1)))) else (spec_WordCut.j0 k a0 a1 a2 true)) = some (r1, r2) := H
    have A9 := Aside0.mk A90
    clear A90
    by_cases c10 : t261 = true
    ·subst c10
     have H1 : ((spec_l8Partner.f k a0 a2).bind fun t262 => (spec_WordCut.j0 k a0 a1 a2 (decide (t262 < a1)))) = some (r1, r2) := by rw [if_pos rfl] at H; exact H
     clear H
     have H := H1
     clear H1
     replace H := Option.bind_eq_some_iff.mp H
     obtain ⟨t262, A110, H⟩ := H
     replace H : (spec_WordCut.j0 k a0 a1 a2 (decide (t262 < a1))) = some (r1, r2) := H
     have A11 := Aside0.mk A110
     clear A110
     have H' := Aside0.mk H
     clear H
     go_wp2_with (first | ((with_reducible refine gate_callee (f := 42) rfl ?_); refine goesL_ (some 15) rfl rfl Tryd.func42 (by kernel_rfl) rfl #[.string a0] rfl (by (try simp only [List.map_toArray, List.map_cons, List.map_nil]); first | done | rfl | (simp only [List.length_drop, List.length_take]; rfl)) ?_; (with_reducible refine (spec_WordValid.calls k a0 true _ A5.out).mono ?_); rintro e w' ⟨rfl, ⟨nd, rfl⟩⟩; refine ⟨_, rfl, ?_⟩) | (go_at_call 50; (with_reducible refine (spec_l6In.calls a1 1 (wrap64 ((a0.size : Int) - 1)) true _ A7.out).mono ?_); rintro e w' ⟨rfl, ⟨nd, rfl⟩⟩) | (go_at_call 50; (with_reducible refine (spec_l6In.calls a2 0 (wrap64 (a1 - 1)) true _ A9.out).mono ?_); rintro e w' ⟨rfl, ⟨nd, rfl⟩⟩) | (go_at_call 51; (with_reducible refine (spec_l8Partner.calls k a0 a2 t262 _ A11.out).mono ?_); rintro e w' ⟨rfl, ⟨nd, rfl⟩⟩))
     go_meet
     case rel => exact ⟨_, (decide (t262 < a1)), (by first | rfl | (simp; done) | (simp [*]; done)), H', ⟨by first | omega | exact Nat.le_refl _⟩, ⟨by repeat (first | (with_reducible first | exact HB.out | apply below_alloc | apply pw_below_drewN | apply below_drew1) | exact HB.out)⟩⟩
    ·replace c10 := Bool.eq_false_iff.mpr c10
     subst c10
     have H1 : (spec_WordCut.j0 k a0 a1 a2 true) = some (r1, r2) := by rw [if_neg (show ¬ (false = true) by decide)] at H; exact H
     clear H
     have H := H1
     clear H1
     have H' := Aside0.mk H
     clear H
     go_wp2_with (first | ((with_reducible refine gate_callee (f := 42) rfl ?_); refine goesL_ (some 15) rfl rfl Tryd.func42 (by kernel_rfl) rfl #[.string a0] rfl (by (try simp only [List.map_toArray, List.map_cons, List.map_nil]); first | done | rfl | (simp only [List.length_drop, List.length_take]; rfl)) ?_; (with_reducible refine (spec_WordValid.calls k a0 true _ A5.out).mono ?_); rintro e w' ⟨rfl, ⟨nd, rfl⟩⟩; refine ⟨_, rfl, ?_⟩) | (go_at_call 50; (with_reducible refine (spec_l6In.calls a1 1 (wrap64 ((a0.size : Int) - 1)) true _ A7.out).mono ?_); rintro e w' ⟨rfl, ⟨nd, rfl⟩⟩) | (go_at_call 50; (with_reducible refine (spec_l6In.calls a2 0 (wrap64 (a1 - 1)) false _ A9.out).mono ?_); rintro e w' ⟨rfl, ⟨nd, rfl⟩⟩))
     go_meet
     case rel => exact ⟨_, (true), (by first | rfl | (simp; done) | (simp [*]; done)), H', ⟨by first | omega | exact Nat.le_refl _⟩, ⟨by repeat (first | (with_reducible first | exact HB.out | apply below_alloc | apply pw_below_drewN | apply below_drew1) | exact HB.out)⟩⟩
   ·replace c8 := Bool.eq_false_iff.mpr c8
    subst c8
    have H1 : (spec_WordCut.j0 k a0 a1 a2 true) = some (r1, r2) := by rw [if_neg (show ¬ (false = true) by decide)] at H; exact H
    clear H
    have H := H1
    clear H1
    have H' := Aside0.mk H
    clear H
    go_wp2_with (first | ((with_reducible refine gate_callee (f := 42) rfl ?_); refine goesL_ (some 15) rfl rfl Tryd.func42 (by kernel_rfl) rfl #[.string a0] rfl (by (try simp only [List.map_toArray, List.map_cons, List.map_nil]); first | done | rfl | (simp only [List.length_drop, List.length_take]; rfl)) ?_; (with_reducible refine (spec_WordValid.calls k a0 true _ A5.out).mono ?_); rintro e w' ⟨rfl, ⟨nd, rfl⟩⟩; refine ⟨_, rfl, ?_⟩) | (go_at_call 50; (with_reducible refine (spec_l6In.calls a1 1 (wrap64 ((a0.size : Int) - 1)) false _ A7.out).mono ?_); rintro e w' ⟨rfl, ⟨nd, rfl⟩⟩))
    go_meet
    case rel => exact ⟨_, (true), (by first | rfl | (simp; done) | (simp [*]; done)), H', ⟨by first | omega | exact Nat.le_refl _⟩, ⟨by repeat (first | (with_reducible first | exact HB.out | apply below_alloc | apply pw_below_drewN | apply below_drew1) | exact HB.out)⟩⟩
  ·replace c6 := Bool.eq_false_iff.mpr c6
   subst c6
   have H1 : (spec_WordCut.j0 k a0 a1 a2 true) = some (r1, r2) := by rw [if_neg (show ¬ (false = true) by decide)] at H; exact H
   clear H
   have H := H1
   clear H1
   have H' := Aside0.mk H
   clear H
   go_wp2_with (first | ((with_reducible refine gate_callee (f := 42) rfl ?_); refine goesL_ (some 15) rfl rfl Tryd.func42 (by kernel_rfl) rfl #[.string a0] rfl (by (try simp only [List.map_toArray, List.map_cons, List.map_nil]); first | done | rfl | (simp only [List.length_drop, List.length_take]; rfl)) ?_; (with_reducible refine (spec_WordValid.calls k a0 false _ A5.out).mono ?_); rintro e w' ⟨rfl, ⟨nd, rfl⟩⟩; refine ⟨_, rfl, ?_⟩))
   go_meet
   case rel => exact ⟨_, (true), (by first | rfl | (simp; done) | (simp [*]; done)), H', ⟨by first | omega | exact Nat.le_refl _⟩, ⟨by repeat (first | (with_reducible first | exact HB.out | apply below_alloc | apply pw_below_drewN | apply below_drew1) | exact HB.out)⟩⟩
 case rest =>
  clear HC4
  try clear c1
  try clear p2
  try clear c3
  try clear c4
  try clear c6
  try clear p6
  try clear c8
  try clear c10
  obtain ⟨kq, x38_3, rfl, HA, HJ3, HB⟩ := hcut
  cases kq with
  | zero => exact absurd HA.out (by simp [spec_WordCut.j0])
  | succ kj3 =>
   have H := HA.out
   clear HA
   simp only [spec_WordCut.j0] at H
   by_cases c12 : x38_3 = true
   ·subst c12
    have H1 : (some ((⟨#[]⟩ : ByteArray), false)) = some (r1, r2) := by rw [if_pos rfl] at H; exact H
    clear H
    have H := H1
    clear H1
    simp only [Option.some.injEq, Prod.mk.injEq] at H
    obtain ⟨rfl, rfl⟩ := H
    go_wp2
    go_ret2
    exact ⟨by first | rfl | (simp [errW_none, errW_some] <;> rfl) | (simp [*, errW_none, errW_some] <;> rfl), by repeat (first | (with_reducible first | exact HB.out | apply below_alloc | apply pw_below_drewN | apply below_drew1) | exact HB.out)⟩
   ·replace c12 := Bool.eq_false_iff.mpr c12
    subst c12
    have H1 : ((spec_l8Partner.f kj3 a0 a2).bind fun t263 => (if 0 ≤ a2 then (if a2 < (a0.size : Int) then ((spec_l8Letter.f kj3 (bt a0 a2)).bind fun t264 => (if a2 ≤ (a0.size : Int) then (if 0 ≤ (wrap64 (a2 + 1)) then (if (wrap64 (a2 + 1)) ≤ a1 then (if a1 ≤ (a0.size : Int) then ((spec_l8Name.f t264 true).bind fun t265 => (if (a0.extract ((wrap64 (a2 + 1)) : Int).toNat (a1 : Int).toNat).size + t265.size ≤ 9223372036854775807 then (if ((a0.extract ((wrap64 (a2 + 1)) : Int).toNat (a1 : Int).toNat) ++ t265).size + (a0.extract 0 (a2 : Int).toNat).size ≤ 9223372036854775807 then (if 0 ≤ (wrap64 (t263 + 1)) then (if (wrap64 (t263 + 1)) ≤ (a0.size : Int) then ((spec_l8Name.f t264 false).bind fun t266 => (if (a0.extract ((wrap64 (t263 + 1)) : Int).toNat a0.size).size + t266.size ≤ 9223372036854775807 then (if 0 ≤ a1 then (if a1 ≤ t263 then (if t263 ≤ (a0.size : Int) then (if ((a0.extract ((wrap64 (t263 + 1)) : Int).toNat a0.size) ++ t266).size + (a0.extract (a1 : Int).toNat (t263 : Int).toNat).size ≤ 9223372036854775807 then ((spec_l8Small.f (bt a0 a2)).bind fun t267 => (if 0 ≤ t263 then (if t263 < (a0.size : Int) then ((spec_l8Small.f (bt a0 t263)).bind fun t268 => (if (t267 == t268) = true then ((spec_l8Back.f kj3 (((a0.extract ((wrap64 (t263 + 1)) : Int).toNat a0.size) ++ t266) ++ (a0.extract (a1 : Int).toNat (t263 : Int).toNat))).bind fun t269 => (if (((a0.extract ((wrap64 (a2 + 1)) : Int).toNat (a1 : Int).toNat) ++ t265) ++ (a0.extract 0 (a2 : Int).toNat)).size + t269.size ≤ 9223372036854775807 then (some (((((a0.extract ((wrap64 (a2 + 1)) : Int).toNat (a1 : Int).toNat) ++ t265) ++ (a0.extract 0 (a2 : Int).toNat)) ++ t269), true)) else (none))) else (if (((a0.extract ((wrap64 (a2 + 1)) : Int).toNat (a1 : Int).toNat) ++ t265) ++ (a0.extract 0 (a2 : Int).toNat)).size + (((a0.extract ((wrap64 (t263 + 1)) : Int).toNat a0.size) ++ t266) ++ (a0.extract (a1 : Int).toNat (t263 : Int).toNat)).size ≤ 9223372036854775807 then (some (((((a0.extract ((wrap64 (a2 + 1)) : Int).toNat (a1 : Int).toNat) ++ t265) ++ (a0.extract 0 (a2 : Int).toNat)) ++ (((a0.extract ((wrap64 (t263 + 1)) : Int).toNat a0.size) ++ t266) ++ (a0.extract (a1 : Int).toNat (t263 : Int).toNat))), true)) else (none)))) else (none)) else (none))) else (none)) else (none)) else (none)) else (none)) else (none))) else (none)) else (none)) else (none)) else (none))) else (none)) else (none)) else (none)) else (none))) else (none)) else (none))) = some (r1, r2) := by rw [if_neg (show ¬ (false = true) by decide)] at H; exact H
    clear H
    have H := H1
    clear H1
    replace H := Option.bind_eq_some_iff.mp H
    obtain ⟨t263, A130, H⟩ := H
    replace H : (if 0 ≤ a2 then (if a2 < (a0.size : Int) then ((spec_l8Letter.f kj3 (bt a0 a2)).bind fun t264 => (if a2 ≤ (a0.size : Int) then (if 0 ≤ (wrap64 (a2 + 1)) then (if (wrap64 (a2 + 1)) ≤ a1 then (if a1 ≤ (a0.size : Int) then ((spec_l8Name.f t264 true).bind fun t265 => (if (a0.extract ((wrap64 (a2 + 1)) : Int).toNat (a1 : Int).toNat).size + t265.size ≤ 9223372036854775807 then (if ((a0.extract ((wrap64 (a2 + 1)) : Int).toNat (a1 : Int).toNat) ++ t265).size + (a0.extract 0 (a2 : Int).toNat).size ≤ 9223372036854775807 then (if 0 ≤ (wrap64 (t263 + 1)) then (if (wrap64 (t263 + 1)) ≤ (a0.size : Int) then ((spec_l8Name.f t264 false).bind fun t266 => (if (a0.extract ((wrap64 (t263 + 1)) : Int).toNat a0.size).size + t266.size ≤ 9223372036854775807 then (if 0 ≤ a1 then (if a1 ≤ t263 then (if t263 ≤ (a0.size : Int) then (if ((a0.extract ((wrap64 (t263 + 1)) : Int).toNat a0.size) ++ t266).size + (a0.extract (a1 : Int).toNat (t263 : Int).toNat).size ≤ 9223372036854775807 then ((spec_l8Small.f (bt a0 a2)).bind fun t267 => (if 0 ≤ t263 then (if t263 < (a0.size : Int) then ((spec_l8Small.f (bt a0 t263)).bind fun t268 => (if (t267 == t268) = true then ((spec_l8Back.f kj3 (((a0.extract ((wrap64 (t263 + 1)) : Int).toNat a0.size) ++ t266) ++ (a0.extract (a1 : Int).toNat (t263 : Int).toNat))).bind fun t269 => (if (((a0.extract ((wrap64 (a2 + 1)) : Int).toNat (a1 : Int).toNat) ++ t265) ++ (a0.extract 0 (a2 : Int).toNat)).size + t269.size ≤ 9223372036854775807 then (some (((((a0.extract ((wrap64 (a2 + 1)) : Int).toNat (a1 : Int).toNat) ++ t265) ++ (a0.extract 0 (a2 : Int).toNat)) ++ t269), true)) else (none))) else (if (((a0.extract ((wrap64 (a2 + 1)) : Int).toNat (a1 : Int).toNat) ++ t265) ++ (a0.extract 0 (a2 : Int).toNat)).size + (((a0.extract ((wrap64 (t263 + 1)) : Int).toNat a0.size) ++ t266) ++ (a0.extract (a1 : Int).toNat (t263 : Int).toNat)).size ≤ 9223372036854775807 then (some (((((a0.extract ((wrap64 (a2 + 1)) : Int).toNat (a1 : Int).toNat) ++ t265) ++ (a0.extract 0 (a2 : Int).toNat)) ++ (((a0.extract ((wrap64 (t263 + 1)) : Int).toNat a0.size) ++ t266) ++ (a0.extract (a1 : Int).toNat (t263 : Int).toNat))), true)) else (none)))) else (none)) else (none))) else (none)) else (none)) else (none)) else (none)) else (none))) else (none)) else (none)) else (none)) else (none))) else (none)) else (none)) else (none)) else (none))) else (none)) else (none)) = some (r1, r2) := H
    have A13 := Aside0.mk A130
    clear A130
    by_cases c14 : 0 ≤ a2
    ·rw [if_pos c14] at H
     have c14b0 : decide (0 ≤ a2) = true := decide_eq_true c14
     clear c14
     by_cases c15 : a2 < (a0.size : Int)
     ·rw [if_pos c15] at H
      have c15b0 : decide (a2 < (a0.size : Int)) = true := decide_eq_true c15
      clear c15
      replace H := Option.bind_eq_some_iff.mp H
      obtain ⟨t264, A170, H⟩ := H
      replace H : (if a2 ≤ (a0.size : Int) then (if 0 ≤ (wrap64 (a2 + 1)) then (if (wrap64 (a2 + 1)) ≤ a1 then (if a1 ≤ (a0.size : Int) then ((spec_l8Name.f t264 true).bind fun t265 => (if (a0.extract ((wrap64 (a2 + 1)) : Int).toNat (a1 : Int).toNat).size + t265.size ≤ 9223372036854775807 then (if ((a0.extract ((wrap64 (a2 + 1)) : Int).toNat (a1 : Int).toNat) ++ t265).size + (a0.extract 0 (a2 : Int).toNat).size ≤ 9223372036854775807 then (if 0 ≤ (wrap64 (t263 + 1)) then (if (wrap64 (t263 + 1)) ≤ (a0.size : Int) then ((spec_l8Name.f t264 false).bind fun t266 => (if (a0.extract ((wrap64 (t263 + 1)) : Int).toNat a0.size).size + t266.size ≤ 9223372036854775807 then (if 0 ≤ a1 then (if a1 ≤ t263 then (if t263 ≤ (a0.size : Int) then (if ((a0.extract ((wrap64 (t263 + 1)) : Int).toNat a0.size) ++ t266).size + (a0.extract (a1 : Int).toNat (t263 : Int).toNat).size ≤ 9223372036854775807 then ((spec_l8Small.f (bt a0 a2)).bind fun t267 => (if 0 ≤ t263 then (if t263 < (a0.size : Int) then ((spec_l8Small.f (bt a0 t263)).bind fun t268 => (if (t267 == t268) = true then ((spec_l8Back.f kj3 (((a0.extract ((wrap64 (t263 + 1)) : Int).toNat a0.size) ++ t266) ++ (a0.extract (a1 : Int).toNat (t263 : Int).toNat))).bind fun t269 => (if (((a0.extract ((wrap64 (a2 + 1)) : Int).toNat (a1 : Int).toNat) ++ t265) ++ (a0.extract 0 (a2 : Int).toNat)).size + t269.size ≤ 9223372036854775807 then (some (((((a0.extract ((wrap64 (a2 + 1)) : Int).toNat (a1 : Int).toNat) ++ t265) ++ (a0.extract 0 (a2 : Int).toNat)) ++ t269), true)) else (none))) else (if (((a0.extract ((wrap64 (a2 + 1)) : Int).toNat (a1 : Int).toNat) ++ t265) ++ (a0.extract 0 (a2 : Int).toNat)).size + (((a0.extract ((wrap64 (t263 + 1)) : Int).toNat a0.size) ++ t266) ++ (a0.extract (a1 : Int).toNat (t263 : Int).toNat)).size ≤ 9223372036854775807 then (some (((((a0.extract ((wrap64 (a2 + 1)) : Int).toNat (a1 : Int).toNat) ++ t265) ++ (a0.extract 0 (a2 : Int).toNat)) ++ (((a0.extract ((wrap64 (t263 + 1)) : Int).toNat a0.size) ++ t266) ++ (a0.extract (a1 : Int).toNat (t263 : Int).toNat))), true)) else (none)))) else (none)) else (none))) else (none)) else (none)) else (none)) else (none)) else (none))) else (none)) else (none)) else (none)) else (none))) else (none)) else (none)) else (none)) else (none)) = some (r1, r2) := H
      have A17 := Aside0.mk A170
      clear A170
      have c18b0 := eq_true (of_decide_eq_true (by first | (with_reducible assumption) | assumption) : 0 ≤ a2)
      by_cases c19 : a2 ≤ (a0.size : Int)
      ·rw [if_pos c19] at H
       have c19b0 := eq_true c19
       have c19b1 : decide (a2 ≤ (a0.size : Int)) = true := decide_eq_true c19
       clear c19
       obtain ⟨zs20, hzs20⟩ : ∃ j_ : ByteArray, (a0.extract 0 (a2 : Int).toNat) = j_ := ⟨_, rfl⟩
       replace H : (if 0 ≤ (wrap64 (a2 + 1)) then (if (wrap64 (a2 + 1)) ≤ a1 then (if a1 ≤ (a0.size : Int) then ((spec_l8Name.f t264 true).bind fun t265 => (if (a0.extract ((wrap64 (a2 + 1)) : Int).toNat (a1 : Int).toNat).size + t265.size ≤ 9223372036854775807 then (if ((a0.extract ((wrap64 (a2 + 1)) : Int).toNat (a1 : Int).toNat) ++ t265).size + zs20.size ≤ 9223372036854775807 then (if 0 ≤ (wrap64 (t263 + 1)) then (if (wrap64 (t263 + 1)) ≤ (a0.size : Int) then ((spec_l8Name.f t264 false).bind fun t266 => (if (a0.extract ((wrap64 (t263 + 1)) : Int).toNat a0.size).size + t266.size ≤ 9223372036854775807 then (if 0 ≤ a1 then (if a1 ≤ t263 then (if t263 ≤ (a0.size : Int) then (if ((a0.extract ((wrap64 (t263 + 1)) : Int).toNat a0.size) ++ t266).size + (a0.extract (a1 : Int).toNat (t263 : Int).toNat).size ≤ 9223372036854775807 then ((spec_l8Small.f (bt a0 a2)).bind fun t267 => (if 0 ≤ t263 then (if t263 < (a0.size : Int) then ((spec_l8Small.f (bt a0 t263)).bind fun t268 => (if (t267 == t268) = true then ((spec_l8Back.f kj3 (((a0.extract ((wrap64 (t263 + 1)) : Int).toNat a0.size) ++ t266) ++ (a0.extract (a1 : Int).toNat (t263 : Int).toNat))).bind fun t269 => (if (((a0.extract ((wrap64 (a2 + 1)) : Int).toNat (a1 : Int).toNat) ++ t265) ++ zs20).size + t269.size ≤ 9223372036854775807 then (some (((((a0.extract ((wrap64 (a2 + 1)) : Int).toNat (a1 : Int).toNat) ++ t265) ++ zs20) ++ t269), true)) else (none))) else (if (((a0.extract ((wrap64 (a2 + 1)) : Int).toNat (a1 : Int).toNat) ++ t265) ++ zs20).size + (((a0.extract ((wrap64 (t263 + 1)) : Int).toNat a0.size) ++ t266) ++ (a0.extract (a1 : Int).toNat (t263 : Int).toNat)).size ≤ 9223372036854775807 then (some (((((a0.extract ((wrap64 (a2 + 1)) : Int).toNat (a1 : Int).toNat) ++ t265) ++ zs20) ++ (((a0.extract ((wrap64 (t263 + 1)) : Int).toNat a0.size) ++ t266) ++ (a0.extract (a1 : Int).toNat (t263 : Int).toNat))), true)) else (none)))) else (none)) else (none))) else (none)) else (none)) else (none)) else (none)) else (none))) else (none)) else (none)) else (none)) else (none))) else (none)) else (none)) else (none)) = some (r1, r2) := by first | (rw [hzs20] at H; exact H) | (simp only [hzs20] at H ⊢; exact H) | exact H
       (try rw [hzs20] at A13)
       (try rw [hzs20] at A17)
       obtain ⟨ji21, hji21⟩ : ∃ j_ : Int, (wrap64 (a2 + 1)) = j_ := ⟨_, rfl⟩
       replace H : (if 0 ≤ (ji21) then (if (ji21) ≤ a1 then (if a1 ≤ (a0.size : Int) then ((spec_l8Name.f t264 true).bind fun t265 => (if (a0.extract ((ji21) : Int).toNat (a1 : Int).toNat).size + t265.size ≤ 9223372036854775807 then (if ((a0.extract ((ji21) : Int).toNat (a1 : Int).toNat) ++ t265).size + zs20.size ≤ 9223372036854775807 then (if 0 ≤ (wrap64 (t263 + 1)) then (if (wrap64 (t263 + 1)) ≤ (a0.size : Int) then ((spec_l8Name.f t264 false).bind fun t266 => (if (a0.extract ((wrap64 (t263 + 1)) : Int).toNat a0.size).size + t266.size ≤ 9223372036854775807 then (if 0 ≤ a1 then (if a1 ≤ t263 then (if t263 ≤ (a0.size : Int) then (if ((a0.extract ((wrap64 (t263 + 1)) : Int).toNat a0.size) ++ t266).size + (a0.extract (a1 : Int).toNat (t263 : Int).toNat).size ≤ 9223372036854775807 then ((spec_l8Small.f (bt a0 a2)).bind fun t267 => (if 0 ≤ t263 then (if t263 < (a0.size : Int) then ((spec_l8Small.f (bt a0 t263)).bind fun t268 => (if (t267 == t268) = true then ((spec_l8Back.f kj3 (((a0.extract ((wrap64 (t263 + 1)) : Int).toNat a0.size) ++ t266) ++ (a0.extract (a1 : Int).toNat (t263 : Int).toNat))).bind fun t269 => (if (((a0.extract ((ji21) : Int).toNat (a1 : Int).toNat) ++ t265) ++ zs20).size + t269.size ≤ 9223372036854775807 then (some (((((a0.extract ((ji21) : Int).toNat (a1 : Int).toNat) ++ t265) ++ zs20) ++ t269), true)) else (none))) else (if (((a0.extract ((ji21) : Int).toNat (a1 : Int).toNat) ++ t265) ++ zs20).size + (((a0.extract ((wrap64 (t263 + 1)) : Int).toNat a0.size) ++ t266) ++ (a0.extract (a1 : Int).toNat (t263 : Int).toNat)).size ≤ 9223372036854775807 then (some (((((a0.extract ((ji21) : Int).toNat (a1 : Int).toNat) ++ t265) ++ zs20) ++ (((a0.extract ((wrap64 (t263 + 1)) : Int).toNat a0.size) ++ t266) ++ (a0.extract (a1 : Int).toNat (t263 : Int).toNat))), true)) else (none)))) else (none)) else (none))) else (none)) else (none)) else (none)) else (none)) else (none))) else (none)) else (none)) else (none)) else (none))) else (none)) else (none)) else (none)) = some (r1, r2) := by first | (rw [hji21] at H; exact H) | (simp only [hji21] at H ⊢; exact H)
       (try rw [hji21] at A13)
       (try rw [hji21] at A17)
       have hji21w : (IntKind.i64.wrap (a2 + 1)) = ji21 := (i64_w _).trans hji21
       by_cases c22 : 0 ≤ (ji21)
       ·rw [if_pos c22] at H
        have c22b0 := eq_true c22
        have c22b1 : decide (0 ≤ (ji21)) = true := decide_eq_true c22
        clear c22
        by_cases c23 : (ji21) ≤ a1
        ·rw [if_pos c23] at H
         have c23b0 := eq_true c23
         have c23b1 : decide ((ji21) ≤ a1) = true := decide_eq_true c23
         clear c23
         by_cases c24 : a1 ≤ (a0.size : Int)
         ·rw [if_pos c24] at H
          have c24b0 := eq_true c24
          have c24b1 : decide (a1 ≤ (a0.size : Int)) = true := decide_eq_true c24
          clear c24
          obtain ⟨zs25, hzs25⟩ : ∃ j_ : ByteArray, (a0.extract ((ji21) : Int).toNat (a1 : Int).toNat) = j_ := ⟨_, rfl⟩
          replace H : ((spec_l8Name.f t264 true).bind fun t265 => (if zs25.size + t265.size ≤ 9223372036854775807 then (if (zs25 ++ t265).size + zs20.size ≤ 9223372036854775807 then (if 0 ≤ (wrap64 (t263 + 1)) then (if (wrap64 (t263 + 1)) ≤ (a0.size : Int) then ((spec_l8Name.f t264 false).bind fun t266 => (if (a0.extract ((wrap64 (t263 + 1)) : Int).toNat a0.size).size + t266.size ≤ 9223372036854775807 then (if 0 ≤ a1 then (if a1 ≤ t263 then (if t263 ≤ (a0.size : Int) then (if ((a0.extract ((wrap64 (t263 + 1)) : Int).toNat a0.size) ++ t266).size + (a0.extract (a1 : Int).toNat (t263 : Int).toNat).size ≤ 9223372036854775807 then ((spec_l8Small.f (bt a0 a2)).bind fun t267 => (if 0 ≤ t263 then (if t263 < (a0.size : Int) then ((spec_l8Small.f (bt a0 t263)).bind fun t268 => (if (t267 == t268) = true then ((spec_l8Back.f kj3 (((a0.extract ((wrap64 (t263 + 1)) : Int).toNat a0.size) ++ t266) ++ (a0.extract (a1 : Int).toNat (t263 : Int).toNat))).bind fun t269 => (if ((zs25 ++ t265) ++ zs20).size + t269.size ≤ 9223372036854775807 then (some ((((zs25 ++ t265) ++ zs20) ++ t269), true)) else (none))) else (if ((zs25 ++ t265) ++ zs20).size + (((a0.extract ((wrap64 (t263 + 1)) : Int).toNat a0.size) ++ t266) ++ (a0.extract (a1 : Int).toNat (t263 : Int).toNat)).size ≤ 9223372036854775807 then (some ((((zs25 ++ t265) ++ zs20) ++ (((a0.extract ((wrap64 (t263 + 1)) : Int).toNat a0.size) ++ t266) ++ (a0.extract (a1 : Int).toNat (t263 : Int).toNat))), true)) else (none)))) else (none)) else (none))) else (none)) else (none)) else (none)) else (none)) else (none))) else (none)) else (none)) else (none)) else (none))) = some (r1, r2) := by first | (rw [hzs25] at H; exact H) | (simp only [hzs25] at H ⊢; exact H) | exact H
          (try rw [hzs25] at A13)
          (try rw [hzs25] at A17)
          replace H := Option.bind_eq_some_iff.mp H
          obtain ⟨t265, A260, H⟩ := H
          replace H : (if zs25.size + t265.size ≤ 9223372036854775807 then (if (zs25 ++ t265).size + zs20.size ≤ 9223372036854775807 then (if 0 ≤ (wrap64 (t263 + 1)) then (if (wrap64 (t263 + 1)) ≤ (a0.size : Int) then ((spec_l8Name.f t264 false).bind fun t266 => (if (a0.extract ((wrap64 (t263 + 1)) : Int).toNat a0.size).size + t266.size ≤ 9223372036854775807 then (if 0 ≤ a1 then (if a1 ≤ t263 then (if t263 ≤ (a0.size : Int) then (if ((a0.extract ((wrap64 (t263 + 1)) : Int).toNat a0.size) ++ t266).size + (a0.extract (a1 : Int).toNat (t263 : Int).toNat).size ≤ 9223372036854775807 then ((spec_l8Small.f (bt a0 a2)).bind fun t267 => (if 0 ≤ t263 then (if t263 < (a0.size : Int) then ((spec_l8Small.f (bt a0 t263)).bind fun t268 => (if (t267 == t268) = true then ((spec_l8Back.f kj3 (((a0.extract ((wrap64 (t263 + 1)) : Int).toNat a0.size) ++ t266) ++ (a0.extract (a1 : Int).toNat (t263 : Int).toNat))).bind fun t269 => (if ((zs25 ++ t265) ++ zs20).size + t269.size ≤ 9223372036854775807 then (some ((((zs25 ++ t265) ++ zs20) ++ t269), true)) else (none))) else (if ((zs25 ++ t265) ++ zs20).size + (((a0.extract ((wrap64 (t263 + 1)) : Int).toNat a0.size) ++ t266) ++ (a0.extract (a1 : Int).toNat (t263 : Int).toNat)).size ≤ 9223372036854775807 then (some ((((zs25 ++ t265) ++ zs20) ++ (((a0.extract ((wrap64 (t263 + 1)) : Int).toNat a0.size) ++ t266) ++ (a0.extract (a1 : Int).toNat (t263 : Int).toNat))), true)) else (none)))) else (none)) else (none))) else (none)) else (none)) else (none)) else (none)) else (none))) else (none)) else (none)) else (none)) else (none)) = some (r1, r2) := H
          have A26 := Aside0.mk A260
          clear A260
          by_cases c27 : zs25.size + t265.size ≤ 9223372036854775807
          ·rw [if_pos c27] at H
           have c27b0 := eq_true c27
           have c27b1 : decide (zs25.size + t265.size ≤ 9223372036854775807) = true := decide_eq_true c27
           try have c27b2 : (9223372036854775807 < zs25.size + t265.size) = False := eq_false (Nat.not_lt.2 c27)
           obtain ⟨zs28, hzs28⟩ : ∃ j_ : ByteArray, (zs25 ++ t265) = j_ := ⟨_, rfl⟩
           replace H : (if zs28.size + zs20.size ≤ 9223372036854775807 then (if 0 ≤ (wrap64 (t263 + 1)) then (if (wrap64 (t263 + 1)) ≤ (a0.size : Int) then ((spec_l8Name.f t264 false).bind fun t266 => (if (a0.extract ((wrap64 (t263 + 1)) : Int).toNat a0.size).size + t266.size ≤ 9223372036854775807 then (if 0 ≤ a1 then (if a1 ≤ t263 then (if t263 ≤ (a0.size : Int) then (if ((a0.extract ((wrap64 (t263 + 1)) : Int).toNat a0.size) ++ t266).size + (a0.extract (a1 : Int).toNat (t263 : Int).toNat).size ≤ 9223372036854775807 then ((spec_l8Small.f (bt a0 a2)).bind fun t267 => (if 0 ≤ t263 then (if t263 < (a0.size : Int) then ((spec_l8Small.f (bt a0 t263)).bind fun t268 => (if (t267 == t268) = true then ((spec_l8Back.f kj3 (((a0.extract ((wrap64 (t263 + 1)) : Int).toNat a0.size) ++ t266) ++ (a0.extract (a1 : Int).toNat (t263 : Int).toNat))).bind fun t269 => (if (zs28 ++ zs20).size + t269.size ≤ 9223372036854775807 then (some (((zs28 ++ zs20) ++ t269), true)) else (none))) else (if (zs28 ++ zs20).size + (((a0.extract ((wrap64 (t263 + 1)) : Int).toNat a0.size) ++ t266) ++ (a0.extract (a1 : Int).toNat (t263 : Int).toNat)).size ≤ 9223372036854775807 then (some (((zs28 ++ zs20) ++ (((a0.extract ((wrap64 (t263 + 1)) : Int).toNat a0.size) ++ t266) ++ (a0.extract (a1 : Int).toNat (t263 : Int).toNat))), true)) else (none)))) else (none)) else (none))) else (none)) else (none)) else (none)) else (none)) else (none))) else (none)) else (none)) else (none)) = some (r1, r2) := by first | (rw [hzs28] at H; exact H) | (simp only [hzs28] at H ⊢; exact H) | exact H
           (try rw [hzs28] at A13)
           (try rw [hzs28] at A17)
           (try rw [hzs28] at A26)
           by_cases c29 : zs28.size + zs20.size ≤ 9223372036854775807
           ·rw [if_pos c29] at H
            have c29b0 := eq_true c29
            have c29b1 : decide (zs28.size + zs20.size ≤ 9223372036854775807) = true := decide_eq_true c29
            try have c29b2 : (9223372036854775807 < zs28.size + zs20.size) = False := eq_false (Nat.not_lt.2 c29)
            obtain ⟨zs30, hzs30⟩ : ∃ j_ : ByteArray, (zs28 ++ zs20) = j_ := ⟨_, rfl⟩
            replace H : (if 0 ≤ (wrap64 (t263 + 1)) then (if (wrap64 (t263 + 1)) ≤ (a0.size : Int) then ((spec_l8Name.f t264 false).bind fun t266 => (if (a0.extract ((wrap64 (t263 + 1)) : Int).toNat a0.size).size + t266.size ≤ 9223372036854775807 then (if 0 ≤ a1 then (if a1 ≤ t263 then (if t263 ≤ (a0.size : Int) then (if ((a0.extract ((wrap64 (t263 + 1)) : Int).toNat a0.size) ++ t266).size + (a0.extract (a1 : Int).toNat (t263 : Int).toNat).size ≤ 9223372036854775807 then ((spec_l8Small.f (bt a0 a2)).bind fun t267 => (if 0 ≤ t263 then (if t263 < (a0.size : Int) then ((spec_l8Small.f (bt a0 t263)).bind fun t268 => (if (t267 == t268) = true then ((spec_l8Back.f kj3 (((a0.extract ((wrap64 (t263 + 1)) : Int).toNat a0.size) ++ t266) ++ (a0.extract (a1 : Int).toNat (t263 : Int).toNat))).bind fun t269 => (if zs30.size + t269.size ≤ 9223372036854775807 then (some ((zs30 ++ t269), true)) else (none))) else (if zs30.size + (((a0.extract ((wrap64 (t263 + 1)) : Int).toNat a0.size) ++ t266) ++ (a0.extract (a1 : Int).toNat (t263 : Int).toNat)).size ≤ 9223372036854775807 then (some ((zs30 ++ (((a0.extract ((wrap64 (t263 + 1)) : Int).toNat a0.size) ++ t266) ++ (a0.extract (a1 : Int).toNat (t263 : Int).toNat))), true)) else (none)))) else (none)) else (none))) else (none)) else (none)) else (none)) else (none)) else (none))) else (none)) else (none)) = some (r1, r2) := by first | (rw [hzs30] at H; exact H) | (simp only [hzs30] at H ⊢; exact H) | exact H
            (try rw [hzs30] at A13)
            (try rw [hzs30] at A17)
            (try rw [hzs30] at A26)
            obtain ⟨ji31, hji31⟩ : ∃ j_ : Int, (wrap64 (t263 + 1)) = j_ := ⟨_, rfl⟩
            replace H : (if 0 ≤ (ji31) then (if (ji31) ≤ (a0.size : Int) then ((spec_l8Name.f t264 false).bind fun t266 => (if (a0.extract ((ji31) : Int).toNat a0.size).size + t266.size ≤ 9223372036854775807 then (if 0 ≤ a1 then (if a1 ≤ t263 then (if t263 ≤ (a0.size : Int) then (if ((a0.extract ((ji31) : Int).toNat a0.size) ++ t266).size + (a0.extract (a1 : Int).toNat (t263 : Int).toNat).size ≤ 9223372036854775807 then ((spec_l8Small.f (bt a0 a2)).bind fun t267 => (if 0 ≤ t263 then (if t263 < (a0.size : Int) then ((spec_l8Small.f (bt a0 t263)).bind fun t268 => (if (t267 == t268) = true then ((spec_l8Back.f kj3 (((a0.extract ((ji31) : Int).toNat a0.size) ++ t266) ++ (a0.extract (a1 : Int).toNat (t263 : Int).toNat))).bind fun t269 => (if zs30.size + t269.size ≤ 9223372036854775807 then (some ((zs30 ++ t269), true)) else (none))) else (if zs30.size + (((a0.extract ((ji31) : Int).toNat a0.size) ++ t266) ++ (a0.extract (a1 : Int).toNat (t263 : Int).toNat)).size ≤ 9223372036854775807 then (some ((zs30 ++ (((a0.extract ((ji31) : Int).toNat a0.size) ++ t266) ++ (a0.extract (a1 : Int).toNat (t263 : Int).toNat))), true)) else (none)))) else (none)) else (none))) else (none)) else (none)) else (none)) else (none)) else (none))) else (none)) else (none)) = some (r1, r2) := by first | (rw [hji31] at H; exact H) | (simp only [hji31] at H ⊢; exact H)
            (try rw [hji31] at A13)
            (try rw [hji31] at A17)
            (try rw [hji31] at A26)
            have hji31w : (IntKind.i64.wrap (t263 + 1)) = ji31 := (i64_w _).trans hji31
            by_cases c32 : 0 ≤ (ji31)
            ·rw [if_pos c32] at H
             have c32b0 := eq_true c32
             have c32b1 : decide (0 ≤ (ji31)) = true := decide_eq_true c32
             clear c32
             by_cases c33 : (ji31) ≤ (a0.size : Int)
             ·rw [if_pos c33] at H
              have c33b0 := eq_true c33
              have c33b1 : decide ((ji31) ≤ (a0.size : Int)) = true := decide_eq_true c33
              clear c33
              obtain ⟨zs34, hzs34⟩ : ∃ j_ : ByteArray, (a0.extract ((ji31) : Int).toNat a0.size) = j_ := ⟨_, rfl⟩
              replace H : ((spec_l8Name.f t264 false).bind fun t266 => (if zs34.size + t266.size ≤ 9223372036854775807 then (if 0 ≤ a1 then (if a1 ≤ t263 then (if t263 ≤ (a0.size : Int) then (if (zs34 ++ t266).size + (a0.extract (a1 : Int).toNat (t263 : Int).toNat).size ≤ 9223372036854775807 then ((spec_l8Small.f (bt a0 a2)).bind fun t267 => (if 0 ≤ t263 then (if t263 < (a0.size : Int) then ((spec_l8Small.f (bt a0 t263)).bind fun t268 => (if (t267 == t268) = true then ((spec_l8Back.f kj3 ((zs34 ++ t266) ++ (a0.extract (a1 : Int).toNat (t263 : Int).toNat))).bind fun t269 => (if zs30.size + t269.size ≤ 9223372036854775807 then (some ((zs30 ++ t269), true)) else (none))) else (if zs30.size + ((zs34 ++ t266) ++ (a0.extract (a1 : Int).toNat (t263 : Int).toNat)).size ≤ 9223372036854775807 then (some ((zs30 ++ ((zs34 ++ t266) ++ (a0.extract (a1 : Int).toNat (t263 : Int).toNat))), true)) else (none)))) else (none)) else (none))) else (none)) else (none)) else (none)) else (none)) else (none))) = some (r1, r2) := by first | (rw [hzs34] at H; exact H) | (simp only [hzs34] at H ⊢; exact H) | exact H
              (try rw [hzs34] at A13)
              (try rw [hzs34] at A17)
              (try rw [hzs34] at A26)
              replace H := Option.bind_eq_some_iff.mp H
              obtain ⟨t266, A350, H⟩ := H
              replace H : (if zs34.size + t266.size ≤ 9223372036854775807 then (if 0 ≤ a1 then (if a1 ≤ t263 then (if t263 ≤ (a0.size : Int) then (if (zs34 ++ t266).size + (a0.extract (a1 : Int).toNat (t263 : Int).toNat).size ≤ 9223372036854775807 then ((spec_l8Small.f (bt a0 a2)).bind fun t267 => (if 0 ≤ t263 then (if t263 < (a0.size : Int) then ((spec_l8Small.f (bt a0 t263)).bind fun t268 => (if (t267 == t268) = true then ((spec_l8Back.f kj3 ((zs34 ++ t266) ++ (a0.extract (a1 : Int).toNat (t263 : Int).toNat))).bind fun t269 => (if zs30.size + t269.size ≤ 9223372036854775807 then (some ((zs30 ++ t269), true)) else (none))) else (if zs30.size + ((zs34 ++ t266) ++ (a0.extract (a1 : Int).toNat (t263 : Int).toNat)).size ≤ 9223372036854775807 then (some ((zs30 ++ ((zs34 ++ t266) ++ (a0.extract (a1 : Int).toNat (t263 : Int).toNat))), true)) else (none)))) else (none)) else (none))) else (none)) else (none)) else (none)) else (none)) else (none)) = some (r1, r2) := H
              have A35 := Aside0.mk A350
              clear A350
              by_cases c36 : zs34.size + t266.size ≤ 9223372036854775807
              ·rw [if_pos c36] at H
               have c36b0 := eq_true c36
               have c36b1 : decide (zs34.size + t266.size ≤ 9223372036854775807) = true := decide_eq_true c36
               try have c36b2 : (9223372036854775807 < zs34.size + t266.size) = False := eq_false (Nat.not_lt.2 c36)
               obtain ⟨zs37, hzs37⟩ : ∃ j_ : ByteArray, (zs34 ++ t266) = j_ := ⟨_, rfl⟩
               replace H : (if 0 ≤ a1 then (if a1 ≤ t263 then (if t263 ≤ (a0.size : Int) then (if zs37.size + (a0.extract (a1 : Int).toNat (t263 : Int).toNat).size ≤ 9223372036854775807 then ((spec_l8Small.f (bt a0 a2)).bind fun t267 => (if 0 ≤ t263 then (if t263 < (a0.size : Int) then ((spec_l8Small.f (bt a0 t263)).bind fun t268 => (if (t267 == t268) = true then ((spec_l8Back.f kj3 (zs37 ++ (a0.extract (a1 : Int).toNat (t263 : Int).toNat))).bind fun t269 => (if zs30.size + t269.size ≤ 9223372036854775807 then (some ((zs30 ++ t269), true)) else (none))) else (if zs30.size + (zs37 ++ (a0.extract (a1 : Int).toNat (t263 : Int).toNat)).size ≤ 9223372036854775807 then (some ((zs30 ++ (zs37 ++ (a0.extract (a1 : Int).toNat (t263 : Int).toNat))), true)) else (none)))) else (none)) else (none))) else (none)) else (none)) else (none)) else (none)) = some (r1, r2) := by first | (rw [hzs37] at H; exact H) | (simp only [hzs37] at H ⊢; exact H) | exact H
               (try rw [hzs37] at A13)
               (try rw [hzs37] at A17)
               (try rw [hzs37] at A26)
               (try rw [hzs37] at A35)
               by_cases c38 : 0 ≤ a1
               ·rw [if_pos c38] at H
                have c38b0 := eq_true c38
                have c38b1 : decide (0 ≤ a1) = true := decide_eq_true c38
                clear c38
                by_cases c39 : a1 ≤ t263
                ·rw [if_pos c39] at H
                 have c39b0 := eq_true c39
                 have c39b1 : decide (a1 ≤ t263) = true := decide_eq_true c39
                 clear c39
                 by_cases c40 : t263 ≤ (a0.size : Int)
                 ·rw [if_pos c40] at H
                  have c40b0 := eq_true c40
                  have c40b1 : decide (t263 ≤ (a0.size : Int)) = true := decide_eq_true c40
                  clear c40
                  obtain ⟨zs41, hzs41⟩ : ∃ j_ : ByteArray, (a0.extract (a1 : Int).toNat (t263 : Int).toNat) = j_ := ⟨_, rfl⟩
                  replace H : (if zs37.size + zs41.size ≤ 9223372036854775807 then ((spec_l8Small.f (bt a0 a2)).bind fun t267 => (if 0 ≤ t263 then (if t263 < (a0.size : Int) then ((spec_l8Small.f (bt a0 t263)).bind fun t268 => (if (t267 == t268) = true then ((spec_l8Back.f kj3 (zs37 ++ zs41)).bind fun t269 => (if zs30.size + t269.size ≤ 9223372036854775807 then (some ((zs30 ++ t269), true)) else (none))) else (if zs30.size + (zs37 ++ zs41).size ≤ 9223372036854775807 then (some ((zs30 ++ (zs37 ++ zs41)), true)) else (none)))) else (none)) else (none))) else (none)) = some (r1, r2) := by first | (rw [hzs41] at H; exact H) | (simp only [hzs41] at H ⊢; exact H) | exact H
                  (try rw [hzs41] at A13)
                  (try rw [hzs41] at A17)
                  (try rw [hzs41] at A26)
                  (try rw [hzs41] at A35)
                  by_cases c42 : zs37.size + zs41.size ≤ 9223372036854775807
                  ·rw [if_pos c42] at H
                   have c42b0 := eq_true c42
                   have c42b1 : decide (zs37.size + zs41.size ≤ 9223372036854775807) = true := decide_eq_true c42
                   try have c42b2 : (9223372036854775807 < zs37.size + zs41.size) = False := eq_false (Nat.not_lt.2 c42)
                   obtain ⟨zs43, hzs43⟩ : ∃ j_ : ByteArray, (zs37 ++ zs41) = j_ := ⟨_, rfl⟩
                   replace H : ((spec_l8Small.f (bt a0 a2)).bind fun t267 => (if 0 ≤ t263 then (if t263 < (a0.size : Int) then ((spec_l8Small.f (bt a0 t263)).bind fun t268 => (if (t267 == t268) = true then ((spec_l8Back.f kj3 zs43).bind fun t269 => (if zs30.size + t269.size ≤ 9223372036854775807 then (some ((zs30 ++ t269), true)) else (none))) else (if zs30.size + zs43.size ≤ 9223372036854775807 then (some ((zs30 ++ zs43), true)) else (none)))) else (none)) else (none))) = some (r1, r2) := by first | (rw [hzs43] at H; exact H) | (simp only [hzs43] at H ⊢; exact H) | exact H
                   (try rw [hzs43] at A13)
                   (try rw [hzs43] at A17)
                   (try rw [hzs43] at A26)
                   (try rw [hzs43] at A35)
                   replace H := Option.bind_eq_some_iff.mp H
                   obtain ⟨t267, A450, H⟩ := H
                   replace H : (if 0 ≤ t263 then (if t263 < (a0.size : Int) then ((spec_l8Small.f (bt a0 t263)).bind fun t268 => (if (t267 == t268) = true then ((spec_l8Back.f kj3 zs43).bind fun t269 => (if zs30.size + t269.size ≤ 9223372036854775807 then (some ((zs30 ++ t269), true)) else (none))) else (if zs30.size + zs43.size ≤ 9223372036854775807 then (some ((zs30 ++ zs43), true)) else (none)))) else (none)) else (none)) = some (r1, r2) := H
                   have A45 := Aside0.mk A450
                   clear A450
                   by_cases c46 : 0 ≤ t263
                   ·rw [if_pos c46] at H
                    have c46b0 : decide (0 ≤ t263) = true := decide_eq_true c46
                    clear c46
                    by_cases c47 : t263 < (a0.size : Int)
                    ·rw [if_pos c47] at H
                     have c47b0 : decide (t263 < (a0.size : Int)) = true := decide_eq_true c47
                     clear c47
                     replace H := Option.bind_eq_some_iff.mp H
                     obtain ⟨t268, A490, H⟩ := H
                     replace H : (if (t267 == t268) = true then ((spec_l8Back.f kj3 zs43).bind fun t269 => (if zs30.size + t269.size ≤ 9223372036854775807 then (some ((zs30 ++ t269), true)) else (none))) else (if zs30.size + zs43.size ≤ 9223372036854775807 then (some ((zs30 ++ zs43), true)) else (none))) = some (r1, r2) := H
                     have A49 := Aside0.mk A490
                     clear A490
                     by_cases c50 : (t267 == t268) = true
                     ·rw [if_pos c50] at H
                      have c50b0 : (t267 == t268) = true := c50
                      (try (have c50b1 : decide (t267 = t268) = true := by simpa using c50))
                      (try (have c50b2 : (t267 == t268) = true := by simpa using c50))
                      clear c50
                      replace H := Option.bind_eq_some_iff.mp H
                      obtain ⟨t269, A510, H⟩ := H
                      replace H : (if zs30.size + t269.size ≤ 9223372036854775807 then (some ((zs30 ++ t269), true)) else (none)) = some (r1, r2) := H
                      have A51 := Aside0.mk A510
                      clear A510
                      by_cases c52 : zs30.size + t269.size ≤ 9223372036854775807
                      ·rw [if_pos c52] at H
                       have c52b0 := eq_true c52
                       have c52b1 : decide (zs30.size + t269.size ≤ 9223372036854775807) = true := decide_eq_true c52
                       try have c52b2 : (9223372036854775807 < zs30.size + t269.size) = False := eq_false (Nat.not_lt.2 c52)
                       obtain ⟨zs53, hzs53⟩ : ∃ j_ : ByteArray, (zs30 ++ t269) = j_ := ⟨_, rfl⟩
                       replace H : (some (zs53, true)) = some (r1, r2) := by first | (rw [hzs53] at H; exact H) | (simp only [hzs53] at H ⊢; exact H) | exact H
                       (try rw [hzs53] at A13)
                       (try rw [hzs53] at A17)
                       (try rw [hzs53] at A26)
                       (try rw [hzs53] at A35)
                       (try rw [hzs53] at A45)
                       (try rw [hzs53] at A49)
                       (try rw [hzs53] at A51)
                       simp only [Option.some.injEq, Prod.mk.injEq] at H
                       obtain ⟨rfl, rfl⟩ := H
                       try go_wp2_with (first | ((with_reducible refine gate_callee (f := 51) rfl ?_); refine goesL_ (some 41) rfl rfl Tryd.func51 (by kernel_rfl) rfl #[.string a0, .int .i64 a2] rfl (by (try simp only [List.map_toArray, List.map_cons, List.map_nil]); first | done | rfl | (simp only [List.length_drop, List.length_take]; rfl)) ?_; (with_reducible refine (spec_l8Partner.calls kj3 a0 a2 t263 _ A13.out).mono ?_); rintro e w' ⟨rfl, ⟨nd, rfl⟩⟩; refine ⟨_, rfl, ?_⟩; have p16 : 0 ≤ (a2 : Int) := of_decide_eq_true (by first | (with_reducible assumption) | assumption); have q16 : a2 < (a0.size : Int) := of_decide_eq_true (by first | (with_reducible assumption) | assumption); have hx16 := bt_at a0 a2; replace p16 := eq_true p16; replace q16 := eq_true q16) | ((with_reducible refine gate_callee (f := 52) rfl ?_); refine goesL_ (some 45) rfl rfl Tryd.func52 (by kernel_rfl) rfl #[.int .u8 (bt a0 a2)] rfl (by (try simp only [List.map_toArray, List.map_cons, List.map_nil]); first | done | rfl | (simp only [List.length_drop, List.length_take]; rfl)) ?_; (with_reducible refine (spec_l8Letter.calls kj3 (bt a0 a2) t264 _ A17.out).mono ?_); rintro e w' ⟨rfl, ⟨nd, rfl⟩⟩; refine ⟨_, rfl, ?_⟩) | ((with_reducible refine gate_callee (f := 53) rfl ?_); refine goesL_ (some 56) rfl rfl Tryd.func53 (by kernel_rfl) rfl #[.int .i64 t264, .bool true] rfl (by (try simp only [List.map_toArray, List.map_cons, List.map_nil]); first | done | rfl | (simp only [List.length_drop, List.length_take]; rfl)) ?_; (with_reducible refine (spec_l8Name.calls t264 true t265 _ A26.out).mono ?_); rintro e w54 ⟨rfl, hb⟩; refine ⟨_, rfl, ?_⟩; have n0_ := Aside0.mk (below_step (by repeat (first | (with_reducible first | exact HB.out | apply below_alloc | apply pw_below_drewN | apply below_drew1) | exact HB.out)) hb); clear HB; have HB := n0_; clear n0_; (try clear hb); (try clear hb2); (try clear hk); (try clear hi)))
                       have n0_ := Aside0.mk (below_drew1 HB.out)
                       clear HB
                       have HB := n0_
                       clear n0_
                       refine start_ (n := 13) (S := fun w' => True) (ds := []) #[false, false, false, false, false, false, false, false, false, false, false, false, false] (by kernel_rfl) rfl rfl trivial (fun hHeld => ?_); refine with_tabW spec_WordCut.tab8 spec_WordCut.bits8 (fun HT_ HW_ => ?_)
                       generalize w54.drew = w55 at HB hHeld ⊢
                       refine pure_ (i := 0) (N := some 60) (v := ?_) (a' := ?_) #[true, false, false, false, false, false, false, false, false, false, false, false, false] rfl rfl (any_of HT_.out (by kernel_rfl)) (fun _ _ _ h => h) (Or.inl ⟨by rfl, ?_⟩) ?_ ?_
                       rotate_left
                       ·intro w'
                        go_simp
                        with_reducible rfl
                       rotate_left
                       ·simp only [Act.put, List.setIfInBounds_toArray, List.set_cons_zero, List.set_cons_succ, i64_w, i32_w]
                        rfl
                       refine pure_ (i := 1) (N := some 61) (v := ?_) (a' := ?_) #[true, true, false, false, false, false, false, false, false, false, false, false, false] rfl rfl (any_of HT_.out (by kernel_rfl)) (fun _ _ _ h => h) (Or.inl ⟨by rfl, ?_⟩) ?_ ?_
                       rotate_left
                       ·intro w'
                        go_simp
                        with_reducible rfl
                       rotate_left
                       ·simp only [Act.put, List.setIfInBounds_toArray, List.set_cons_zero, List.set_cons_succ, i64_w, i32_w]
                        rfl
                       refine pure_ (i := 2) (N := some 62) (v := ?_) (a' := ?_) #[true, true, true, false, false, false, false, false, false, false, false, false, false] rfl rfl (any_of HT_.out (by kernel_rfl)) (fun _ _ _ h => h) (Or.inl ⟨by rfl, ?_⟩) ?_ ?_
                       rotate_left
                       ·intro w'
                        go_simp
                        with_reducible rfl
                       rotate_left
                       ·simp only [Act.put, List.setIfInBounds_toArray, List.set_cons_zero, List.set_cons_succ, i64_w, i32_w]
                        rfl
                       refine pure_ (i := 3) (N := some 63) (v := ?_) (a' := ?_) #[true, true, true, true, false, false, false, false, false, false, false, false, false] rfl rfl (any_of HT_.out (by kernel_rfl)) (fun _ _ _ h => h) (Or.inl ⟨by rfl, ?_⟩) ?_ ?_
                       rotate_left
                       ·intro w'
                        go_simp
                        with_reducible rfl
                       rotate_left
                       ·simp only [Act.put, List.setIfInBounds_toArray, List.set_cons_zero, List.set_cons_succ, i64_w, i32_w]
                        rfl
                       refine pure_ (i := 4) (N := some 64) (v := ?_) (a' := ?_) #[true, true, true, true, true, false, false, false, false, false, false, false, false] rfl rfl (any_of HT_.out (by kernel_rfl)) (fun _ _ _ h => h) (Or.inl ⟨by rfl, ?_⟩) ?_ ?_
                       rotate_left
                       ·intro w'
                        go_simp
                        with_reducible rfl
                       rotate_left
                       ·simp only [Act.put, List.setIfInBounds_toArray, List.set_cons_zero, List.set_cons_succ, i64_w, i32_w]
                        rfl
                       refine pure_ (i := 7) (N := some 67) (v := ?_) (a' := ?_) #[true, true, true, true, true, false, false, true, false, false, false, false, false] rfl rfl (any_of HT_.out (by kernel_rfl)) (fun _ _ _ h => h) (Or.inl ⟨by rfl, ?_⟩) ?_ ?_
                       rotate_left
                       ·intro w'
                        go_simp
                        with_reducible rfl
                       rotate_left
                       ·simp only [Act.put, List.setIfInBounds_toArray, List.set_cons_zero, List.set_cons_succ, i64_w, i32_w]
                        rfl
                       refine pure_ (i := 8) (N := some 68) (v := ?_) (a' := ?_) #[true, true, true, true, true, false, false, true, true, false, false, false, false] rfl rfl (any_of HT_.out (by kernel_rfl)) (fun _ _ _ h => h) (Or.inl ⟨by rfl, ?_⟩) ?_ ?_
                       rotate_left
                       ·intro w'
                        go_simp
                        with_reducible rfl
                       rotate_left
                       ·simp only [Act.put, List.setIfInBounds_toArray, List.set_cons_zero, List.set_cons_succ, i64_w, i32_w]
                        rfl
                       refine pure_ (i := 9) (N := some 69) (v := ?_) (a' := ?_) #[true, true, true, true, true, false, false, true, true, true, false, false, false] rfl rfl (any_of HT_.out (by kernel_rfl)) (fun _ _ _ h => h) (Or.inl ⟨by rfl, ?_⟩) ?_ ?_
                       rotate_left
                       ·intro w'
                        go_simp
                        with_reducible rfl
                       rotate_left
                       ·simp only [Act.put, List.setIfInBounds_toArray, List.set_cons_zero, List.set_cons_succ, i64_w, i32_w]
                        rfl
                       refine pure_ (i := 10) (N := some 70) (v := ?_) (a' := ?_) #[true, true, true, true, true, false, false, true, true, true, true, false, false] rfl rfl (any_of HT_.out (by kernel_rfl)) (fun _ _ _ h => h) (Or.inl ⟨by rfl, ?_⟩) ?_ ?_
                       rotate_left
                       ·intro w'
                        go_simp
                        with_reducible rfl
                       rotate_left
                       ·simp only [Act.put, List.setIfInBounds_toArray, List.set_cons_zero, List.set_cons_succ, i64_w, i32_w]
                        rfl
                       refine one_ (i := 5) (N := some 65) #[true, true, true, true, true, true, false, true, true, true, true, false, false] rfl rfl (one_of HT_.out (by kernel_rfl)) (by decide) (fun K hK => ?_)
                       refine goes_ Tryd.func53 (by kernel_rfl) rfl #[.int .i64 t264, .bool false] (by rfl) rfl rfl (by (try simp only [List.map_toArray, List.map_cons, List.map_nil]); first | done | rfl | (simp only [List.length_drop, List.length_take]; rfl)) ?_
                       with_reducible refine (spec_l8Name.calls t264 false t266 _ A35.out).mono ?_
                       rintro e w56 ⟨rfl, hb⟩
                       refine ⟨_, rfl, ?_⟩
                       have n0_ := Aside0.mk (below_step (by repeat (first | (with_reducible first | exact HB.out | apply below_alloc | apply pw_below_drewN | apply below_drew1) | exact HB.out)) hb)
                       clear HB
                       have HB := n0_
                       clear n0_
                       (try clear hb)
                       (try clear hb2)
                       (try clear hk)
                       (try clear hi)
                       refine hK.out _ _ trivial (fun hHeld => ?_)
                       clear hK K
                       refine norm_ (a' := ?_) ?_ ?_
                       rotate_left
                       ·show Act.put _ (some 65) _ = _
                        simp only [Act.put, List.setIfInBounds_toArray, List.set_cons_zero, List.set_cons_succ, i64_w, i32_w]
                        rfl
                       refine pure_ (i := 6) (N := some 66) (v := ?_) (a' := ?_) #[true, true, true, true, true, true, true, true, true, true, true, false, false] rfl rfl (any_of HT_.out (by kernel_rfl)) (fun _ _ _ h => h) (Or.inl ⟨by rfl, ?_⟩) ?_ ?_
                       rotate_left
                       ·intro w'
                        go_simp
                        with_reducible rfl
                       rotate_left
                       ·simp only [Act.put, List.setIfInBounds_toArray, List.set_cons_zero, List.set_cons_succ, i64_w, i32_w]
                        rfl
                       refine pure_ (i := 11) (N := some 71) (v := ?_) (a' := ?_) #[true, true, true, true, true, true, true, true, true, true, true, true, false] rfl rfl (any_of HT_.out (by kernel_rfl)) (fun _ _ _ h => h) (Or.inl ⟨by rfl, ?_⟩) ?_ ?_
                       rotate_left
                       ·intro w'
                        go_simp
                        with_reducible rfl
                       rotate_left
                       ·simp only [Act.put, List.setIfInBounds_toArray, List.set_cons_zero, List.set_cons_succ, i64_w, i32_w]
                        rfl
                       refine pure_ (i := 12) (N := some 13) (v := ?_) (a' := ?_) #[true, true, true, true, true, true, true, true, true, true, true, true, true] rfl rfl (any_of HT_.out (by kernel_rfl)) (fun _ _ _ h => h) (Or.inl ⟨by rfl, ?_⟩) ?_ ?_
                       rotate_left
                       ·intro w'
                        go_simp
                        with_reducible rfl
                       rotate_left
                       ·simp only [Act.put, List.setIfInBounds_toArray, List.set_cons_zero, List.set_cons_succ, i64_w, i32_w]
                        rfl
                       refine done_ (done_of HT_.out (by kernel_rfl)) ?_
                       try go_wp2
                       have n0_ := Aside0.mk (below_drew1 HB.out)
                       clear HB
                       have HB := n0_
                       clear n0_
                       have p44 : 0 ≤ (a2 : Int) := of_decide_eq_true (by first | (with_reducible assumption) | assumption)
                       have q44 : a2 < (a0.size : Int) := of_decide_eq_true (by first | (with_reducible assumption) | assumption)
                       have hx44 := bt_at a0 a2
                       replace p44 := eq_true p44
                       replace q44 := eq_true q44
                       have p48 : 0 ≤ (t263 : Int) := of_decide_eq_true (by first | (with_reducible assumption) | assumption)
                       have q48 : t263 < (a0.size : Int) := of_decide_eq_true (by first | (with_reducible assumption) | assumption)
                       have hx48 := bt_at a0 t263
                       replace p48 := eq_true p48
                       replace q48 := eq_true q48
                       refine start_ (n := 9) (S := fun w' => True) (ds := []) #[false, false, false, false, false, false, false, false, false] (by kernel_rfl) rfl rfl trivial (fun hHeld => ?_); refine with_tabW spec_WordCut.tab9 spec_WordCut.bits9 (fun HT_ HW_ => ?_)
                       generalize w56.drew = w57 at HB hHeld ⊢
                       refine pure_ (i := 0) (N := some 72) (v := ?_) (a' := ?_) #[true, false, false, false, false, false, false, false, false] rfl rfl (any_of HT_.out (by kernel_rfl)) (fun _ _ _ h => h) (Or.inl ⟨by rfl, ?_⟩) ?_ ?_
                       rotate_left
                       ·intro w'
                        go_simp
                        with_reducible rfl
                       rotate_left
                       ·simp only [Act.put, List.setIfInBounds_toArray, List.set_cons_zero, List.set_cons_succ, i64_w, i32_w]
                        rfl
                       refine pure_ (i := 1) (N := some 73) (v := ?_) (a' := ?_) #[true, true, false, false, false, false, false, false, false] rfl rfl (any_of HT_.out (by kernel_rfl)) (fun _ _ _ h => h) (Or.inl ⟨by rfl, ?_⟩) ?_ ?_
                       rotate_left
                       ·intro w'
                        go_simp
                        with_reducible rfl
                       rotate_left
                       ·simp only [Act.put, List.setIfInBounds_toArray, List.set_cons_zero, List.set_cons_succ, i64_w, i32_w]
                        rfl
                       refine pure_ (i := 4) (N := some 76) (v := ?_) (a' := ?_) #[true, true, false, false, true, false, false, false, false] rfl rfl (any_of HT_.out (by kernel_rfl)) (fun _ _ _ h => h) (Or.inl ⟨by rfl, ?_⟩) ?_ ?_
                       rotate_left
                       ·intro w'
                        go_simp
                        with_reducible rfl
                       rotate_left
                       ·simp only [Act.put, List.setIfInBounds_toArray, List.set_cons_zero, List.set_cons_succ, i64_w, i32_w]
                        rfl
                       refine pure_ (i := 5) (N := some 77) (v := ?_) (a' := ?_) #[true, true, false, false, true, true, false, false, false] rfl rfl (any_of HT_.out (by kernel_rfl)) (fun _ _ _ h => h) (Or.inl ⟨by rfl, ?_⟩) ?_ ?_
                       rotate_left
                       ·intro w'
                        go_simp
                        with_reducible rfl
                       rotate_left
                       ·simp only [Act.put, List.setIfInBounds_toArray, List.set_cons_zero, List.set_cons_succ, i64_w, i32_w]
                        rfl
                       refine take_ (i := 2) (N := some 74) (v := ?_) (a' := ?_) #[true, true, true, false, true, true, false, false, false] rfl rfl (take_ofW HT_.out HW_.out (by kernel_rfl)) (fun _ _ _ h => h) (Or.inl ⟨by rfl, ?_⟩) hHeld ?_ ?_
                       rotate_left
                       ·intro w' _
                        go_simp
                        with_reducible rfl
                       rotate_left
                       ·simp only [Act.put, List.setIfInBounds_toArray, List.set_cons_zero, List.set_cons_succ, i64_w, i32_w]
                        rfl
                       refine take_ (i := 6) (N := some 78) (v := ?_) (a' := ?_) #[true, true, true, false, true, true, true, false, false] rfl rfl (take_ofW HT_.out HW_.out (by kernel_rfl)) (fun _ _ _ h => h) (Or.inl ⟨by rfl, ?_⟩) hHeld ?_ ?_
                       rotate_left
                       ·intro w' _
                        go_simp
                        with_reducible rfl
                       rotate_left
                       ·simp only [Act.put, List.setIfInBounds_toArray, List.set_cons_zero, List.set_cons_succ, i64_w, i32_w]
                        rfl
                       refine one_ (i := 3) (N := some 75) #[true, true, true, true, true, true, true, false, false] rfl rfl (one_of HT_.out (by kernel_rfl)) (by decide) (fun K hK => ?_)
                       refine goes_ Tryd.func54 (by kernel_rfl) rfl #[.int .u8 (bt a0 a2)] (by rfl) rfl rfl (by (try simp only [List.map_toArray, List.map_cons, List.map_nil]); first | done | rfl | (simp only [List.length_drop, List.length_take]; rfl)) ?_
                       with_reducible refine (spec_l8Small.calls (bt a0 a2) t267 _ A45.out).mono ?_
                       rintro e w' ⟨rfl, ⟨nd, rfl⟩⟩
                       refine ⟨_, rfl, ?_⟩
                       refine hK.out _ _ trivial (fun hHeld => ?_)
                       clear hK K
                       refine norm_ (a' := ?_) ?_ ?_
                       rotate_left
                       ·show Act.put _ (some 75) _ = _
                        simp only [Act.put, List.setIfInBounds_toArray, List.set_cons_zero, List.set_cons_succ, i64_w, i32_w]
                        rfl
                       refine one_ (i := 7) (N := some 79) #[true, true, true, true, true, true, true, true, false] rfl rfl (one_of HT_.out (by kernel_rfl)) (by decide) (fun K hK => ?_)
                       refine goes_ Tryd.func54 (by kernel_rfl) rfl #[.int .u8 (bt a0 t263)] (by rfl) rfl rfl (by (try simp only [List.map_toArray, List.map_cons, List.map_nil]); first | done | rfl | (simp only [List.length_drop, List.length_take]; rfl)) ?_
                       with_reducible refine (spec_l8Small.calls (bt a0 t263) t268 _ A49.out).mono ?_
                       rintro e w' ⟨rfl, ⟨nd, rfl⟩⟩
                       refine ⟨_, rfl, ?_⟩
                       refine hK.out _ _ trivial (fun hHeld => ?_)
                       clear hK K
                       refine norm_ (a' := ?_) ?_ ?_
                       rotate_left
                       ·show Act.put _ (some 79) _ = _
                        simp only [Act.put, List.setIfInBounds_toArray, List.set_cons_zero, List.set_cons_succ, i64_w, i32_w]
                        rfl
                       refine pure_ (i := 8) (N := some 80) (v := ?_) (a' := ?_) #[true, true, true, true, true, true, true, true, true] rfl rfl (any_of HT_.out (by kernel_rfl)) (fun _ _ _ h => h) (Or.inl ⟨by rfl, ?_⟩) ?_ ?_
                       rotate_left
                       ·intro w'
                        go_simp
                        with_reducible rfl
                       rotate_left
                       ·simp only [Act.put, List.setIfInBounds_toArray, List.set_cons_zero, List.set_cons_succ, i64_w, i32_w]
                        rfl
                       refine done_ (done_of HT_.out (by kernel_rfl)) ?_
                       try go_wp2_with (first | ((with_reducible refine gate_callee (f := 44) rfl ?_); refine goesL_ (some 82) rfl rfl Tryd.func44 (by kernel_rfl) rfl #[.string zs43] rfl (by (try simp only [List.map_toArray, List.map_cons, List.map_nil]); first | done | rfl | (simp only [List.length_drop, List.length_take]; rfl)) ?_; (with_reducible refine (spec_l8Back.calls kj3 zs43 t269 _ A51.out).mono ?_); rintro e w58 ⟨rfl, hb⟩; refine ⟨_, rfl, ?_⟩; have n0_ := Aside0.mk (below_step (by repeat (first | (with_reducible first | exact HB.out | apply below_alloc | apply pw_below_drewN | apply below_drew1) | exact HB.out)) hb); clear HB; have HB := n0_; clear n0_; (try clear hb); (try clear hb2); (try clear hk); (try clear hi)))
                       go_ret2
                       exact ⟨by first | rfl | (simp [errW_none, errW_some] <;> rfl) | (simp only [← hji21, ← hji31]; first | rfl | (simp [errW_none, errW_some] <;> rfl)) | (simp [*, errW_none, errW_some] <;> rfl), by repeat (first | (with_reducible first | exact HB.out | apply below_alloc | apply pw_below_drewN | apply below_drew1) | exact HB.out)⟩
                      ·rw [if_neg c52] at H
                       exact absurd H (by simp)
                     ·rw [if_neg c50] at H
                      have c50b0 : (t267 == t268) = false := by simpa using c50
                      (try (have c50b1 : decide (t267 = t268) = false := by simpa using c50))
                      (try (have c50b2 : (t267 == t268) = false := by simpa using c50))
                      (try (have c50b3 : ¬ (t267 = t268) := by simpa using c50))
                      clear c50
                      by_cases c59 : zs30.size + zs43.size ≤ 9223372036854775807
                      ·rw [if_pos c59] at H
                       have c59b0 := eq_true c59
                       have c59b1 : decide (zs30.size + zs43.size ≤ 9223372036854775807) = true := decide_eq_true c59
                       try have c59b2 : (9223372036854775807 < zs30.size + zs43.size) = False := eq_false (Nat.not_lt.2 c59)
                       obtain ⟨zs60, hzs60⟩ : ∃ j_ : ByteArray, (zs30 ++ zs43) = j_ := ⟨_, rfl⟩
                       replace H : (some (zs60, true)) = some (r1, r2) := by first | (rw [hzs60] at H; exact H) | (simp only [hzs60] at H ⊢; exact H) | exact H
                       (try rw [hzs60] at A13)
                       (try rw [hzs60] at A17)
                       (try rw [hzs60] at A26)
                       (try rw [hzs60] at A35)
                       (try rw [hzs60] at A45)
                       (try rw [hzs60] at A49)
                       simp only [Option.some.injEq, Prod.mk.injEq] at H
                       obtain ⟨rfl, rfl⟩ := H
                       try go_wp2_with (first | ((with_reducible refine gate_callee (f := 51) rfl ?_); refine goesL_ (some 41) rfl rfl Tryd.func51 (by kernel_rfl) rfl #[.string a0, .int .i64 a2] rfl (by (try simp only [List.map_toArray, List.map_cons, List.map_nil]); first | done | rfl | (simp only [List.length_drop, List.length_take]; rfl)) ?_; (with_reducible refine (spec_l8Partner.calls kj3 a0 a2 t263 _ A13.out).mono ?_); rintro e w' ⟨rfl, ⟨nd, rfl⟩⟩; refine ⟨_, rfl, ?_⟩; have p16 : 0 ≤ (a2 : Int) := of_decide_eq_true (by first | (with_reducible assumption) | assumption); have q16 : a2 < (a0.size : Int) := of_decide_eq_true (by first | (with_reducible assumption) | assumption); have hx16 := bt_at a0 a2; replace p16 := eq_true p16; replace q16 := eq_true q16) | ((with_reducible refine gate_callee (f := 52) rfl ?_); refine goesL_ (some 45) rfl rfl Tryd.func52 (by kernel_rfl) rfl #[.int .u8 (bt a0 a2)] rfl (by (try simp only [List.map_toArray, List.map_cons, List.map_nil]); first | done | rfl | (simp only [List.length_drop, List.length_take]; rfl)) ?_; (with_reducible refine (spec_l8Letter.calls kj3 (bt a0 a2) t264 _ A17.out).mono ?_); rintro e w' ⟨rfl, ⟨nd, rfl⟩⟩; refine ⟨_, rfl, ?_⟩) | ((with_reducible refine gate_callee (f := 53) rfl ?_); refine goesL_ (some 56) rfl rfl Tryd.func53 (by kernel_rfl) rfl #[.int .i64 t264, .bool true] rfl (by (try simp only [List.map_toArray, List.map_cons, List.map_nil]); first | done | rfl | (simp only [List.length_drop, List.length_take]; rfl)) ?_; (with_reducible refine (spec_l8Name.calls t264 true t265 _ A26.out).mono ?_); rintro e w61 ⟨rfl, hb⟩; refine ⟨_, rfl, ?_⟩; have n0_ := Aside0.mk (below_step (by repeat (first | (with_reducible first | exact HB.out | apply below_alloc | apply pw_below_drewN | apply below_drew1) | exact HB.out)) hb); clear HB; have HB := n0_; clear n0_; (try clear hb); (try clear hb2); (try clear hk); (try clear hi)))
                       have n0_ := Aside0.mk (below_drew1 HB.out)
                       clear HB
                       have HB := n0_
                       clear n0_
                       refine start_ (n := 13) (S := fun w' => True) (ds := []) #[false, false, false, false, false, false, false, false, false, false, false, false, false] (by kernel_rfl) rfl rfl trivial (fun hHeld => ?_); refine with_tabW spec_WordCut.tab8 spec_WordCut.bits8 (fun HT_ HW_ => ?_)
                       generalize w61.drew = w62 at HB hHeld ⊢
                       refine pure_ (i := 0) (N := some 60) (v := ?_) (a' := ?_) #[true, false, false, false, false, false, false, false, false, false, false, false, false] rfl rfl (any_of HT_.out (by kernel_rfl)) (fun _ _ _ h => h) (Or.inl ⟨by rfl, ?_⟩) ?_ ?_
                       rotate_left
                       ·intro w'
                        go_simp
                        with_reducible rfl
                       rotate_left
                       ·simp only [Act.put, List.setIfInBounds_toArray, List.set_cons_zero, List.set_cons_succ, i64_w, i32_w]
                        rfl
                       refine pure_ (i := 1) (N := some 61) (v := ?_) (a' := ?_) #[true, true, false, false, false, false, false, false, false, false, false, false, false] rfl rfl (any_of HT_.out (by kernel_rfl)) (fun _ _ _ h => h) (Or.inl ⟨by rfl, ?_⟩) ?_ ?_
                       rotate_left
                       ·intro w'
                        go_simp
                        with_reducible rfl
                       rotate_left
                       ·simp only [Act.put, List.setIfInBounds_toArray, List.set_cons_zero, List.set_cons_succ, i64_w, i32_w]
                        rfl
                       refine pure_ (i := 2) (N := some 62) (v := ?_) (a' := ?_) #[true, true, true, false, false, false, false, false, false, false, false, false, false] rfl rfl (any_of HT_.out (by kernel_rfl)) (fun _ _ _ h => h) (Or.inl ⟨by rfl, ?_⟩) ?_ ?_
                       rotate_left
                       ·intro w'
                        go_simp
                        with_reducible rfl
                       rotate_left
                       ·simp only [Act.put, List.setIfInBounds_toArray, List.set_cons_zero, List.set_cons_succ, i64_w, i32_w]
                        rfl
                       refine pure_ (i := 3) (N := some 63) (v := ?_) (a' := ?_) #[true, true, true, true, false, false, false, false, false, false, false, false, false] rfl rfl (any_of HT_.out (by kernel_rfl)) (fun _ _ _ h => h) (Or.inl ⟨by rfl, ?_⟩) ?_ ?_
                       rotate_left
                       ·intro w'
                        go_simp
                        with_reducible rfl
                       rotate_left
                       ·simp only [Act.put, List.setIfInBounds_toArray, List.set_cons_zero, List.set_cons_succ, i64_w, i32_w]
                        rfl
                       refine pure_ (i := 4) (N := some 64) (v := ?_) (a' := ?_) #[true, true, true, true, true, false, false, false, false, false, false, false, false] rfl rfl (any_of HT_.out (by kernel_rfl)) (fun _ _ _ h => h) (Or.inl ⟨by rfl, ?_⟩) ?_ ?_
                       rotate_left
                       ·intro w'
                        go_simp
                        with_reducible rfl
                       rotate_left
                       ·simp only [Act.put, List.setIfInBounds_toArray, List.set_cons_zero, List.set_cons_succ, i64_w, i32_w]
                        rfl
                       refine pure_ (i := 7) (N := some 67) (v := ?_) (a' := ?_) #[true, true, true, true, true, false, false, true, false, false, false, false, false] rfl rfl (any_of HT_.out (by kernel_rfl)) (fun _ _ _ h => h) (Or.inl ⟨by rfl, ?_⟩) ?_ ?_
                       rotate_left
                       ·intro w'
                        go_simp
                        with_reducible rfl
                       rotate_left
                       ·simp only [Act.put, List.setIfInBounds_toArray, List.set_cons_zero, List.set_cons_succ, i64_w, i32_w]
                        rfl
                       refine pure_ (i := 8) (N := some 68) (v := ?_) (a' := ?_) #[true, true, true, true, true, false, false, true, true, false, false, false, false] rfl rfl (any_of HT_.out (by kernel_rfl)) (fun _ _ _ h => h) (Or.inl ⟨by rfl, ?_⟩) ?_ ?_
                       rotate_left
                       ·intro w'
                        go_simp
                        with_reducible rfl
                       rotate_left
                       ·simp only [Act.put, List.setIfInBounds_toArray, List.set_cons_zero, List.set_cons_succ, i64_w, i32_w]
                        rfl
                       refine pure_ (i := 9) (N := some 69) (v := ?_) (a' := ?_) #[true, true, true, true, true, false, false, true, true, true, false, false, false] rfl rfl (any_of HT_.out (by kernel_rfl)) (fun _ _ _ h => h) (Or.inl ⟨by rfl, ?_⟩) ?_ ?_
                       rotate_left
                       ·intro w'
                        go_simp
                        with_reducible rfl
                       rotate_left
                       ·simp only [Act.put, List.setIfInBounds_toArray, List.set_cons_zero, List.set_cons_succ, i64_w, i32_w]
                        rfl
                       refine pure_ (i := 10) (N := some 70) (v := ?_) (a' := ?_) #[true, true, true, true, true, false, false, true, true, true, true, false, false] rfl rfl (any_of HT_.out (by kernel_rfl)) (fun _ _ _ h => h) (Or.inl ⟨by rfl, ?_⟩) ?_ ?_
                       rotate_left
                       ·intro w'
                        go_simp
                        with_reducible rfl
                       rotate_left
                       ·simp only [Act.put, List.setIfInBounds_toArray, List.set_cons_zero, List.set_cons_succ, i64_w, i32_w]
                        rfl
                       refine one_ (i := 5) (N := some 65) #[true, true, true, true, true, true, false, true, true, true, true, false, false] rfl rfl (one_of HT_.out (by kernel_rfl)) (by decide) (fun K hK => ?_)
                       refine goes_ Tryd.func53 (by kernel_rfl) rfl #[.int .i64 t264, .bool false] (by rfl) rfl rfl (by (try simp only [List.map_toArray, List.map_cons, List.map_nil]); first | done | rfl | (simp only [List.length_drop, List.length_take]; rfl)) ?_
                       with_reducible refine (spec_l8Name.calls t264 false t266 _ A35.out).mono ?_
                       rintro e w63 ⟨rfl, hb⟩
                       refine ⟨_, rfl, ?_⟩
                       have n0_ := Aside0.mk (below_step (by repeat (first | (with_reducible first | exact HB.out | apply below_alloc | apply pw_below_drewN | apply below_drew1) | exact HB.out)) hb)
                       clear HB
                       have HB := n0_
                       clear n0_
                       (try clear hb)
                       (try clear hb2)
                       (try clear hk)
                       (try clear hi)
                       refine hK.out _ _ trivial (fun hHeld => ?_)
                       clear hK K
                       refine norm_ (a' := ?_) ?_ ?_
                       rotate_left
                       ·show Act.put _ (some 65) _ = _
                        simp only [Act.put, List.setIfInBounds_toArray, List.set_cons_zero, List.set_cons_succ, i64_w, i32_w]
                        rfl
                       refine pure_ (i := 6) (N := some 66) (v := ?_) (a' := ?_) #[true, true, true, true, true, true, true, true, true, true, true, false, false] rfl rfl (any_of HT_.out (by kernel_rfl)) (fun _ _ _ h => h) (Or.inl ⟨by rfl, ?_⟩) ?_ ?_
                       rotate_left
                       ·intro w'
                        go_simp
                        with_reducible rfl
                       rotate_left
                       ·simp only [Act.put, List.setIfInBounds_toArray, List.set_cons_zero, List.set_cons_succ, i64_w, i32_w]
                        rfl
                       refine pure_ (i := 11) (N := some 71) (v := ?_) (a' := ?_) #[true, true, true, true, true, true, true, true, true, true, true, true, false] rfl rfl (any_of HT_.out (by kernel_rfl)) (fun _ _ _ h => h) (Or.inl ⟨by rfl, ?_⟩) ?_ ?_
                       rotate_left
                       ·intro w'
                        go_simp
                        with_reducible rfl
                       rotate_left
                       ·simp only [Act.put, List.setIfInBounds_toArray, List.set_cons_zero, List.set_cons_succ, i64_w, i32_w]
                        rfl
                       refine pure_ (i := 12) (N := some 13) (v := ?_) (a' := ?_) #[true, true, true, true, true, true, true, true, true, true, true, true, true] rfl rfl (any_of HT_.out (by kernel_rfl)) (fun _ _ _ h => h) (Or.inl ⟨by rfl, ?_⟩) ?_ ?_
                       rotate_left
                       ·intro w'
                        go_simp
                        with_reducible rfl
                       rotate_left
                       ·simp only [Act.put, List.setIfInBounds_toArray, List.set_cons_zero, List.set_cons_succ, i64_w, i32_w]
                        rfl
                       refine done_ (done_of HT_.out (by kernel_rfl)) ?_
                       try go_wp2
                       have n0_ := Aside0.mk (below_drew1 HB.out)
                       clear HB
                       have HB := n0_
                       clear n0_
                       have p44 : 0 ≤ (a2 : Int) := of_decide_eq_true (by first | (with_reducible assumption) | assumption)
                       have q44 : a2 < (a0.size : Int) := of_decide_eq_true (by first | (with_reducible assumption) | assumption)
                       have hx44 := bt_at a0 a2
                       replace p44 := eq_true p44
                       replace q44 := eq_true q44
                       have p48 : 0 ≤ (t263 : Int) := of_decide_eq_true (by first | (with_reducible assumption) | assumption)
                       have q48 : t263 < (a0.size : Int) := of_decide_eq_true (by first | (with_reducible assumption) | assumption)
                       have hx48 := bt_at a0 t263
                       replace p48 := eq_true p48
                       replace q48 := eq_true q48
                       refine start_ (n := 9) (S := fun w' => True) (ds := []) #[false, false, false, false, false, false, false, false, false] (by kernel_rfl) rfl rfl trivial (fun hHeld => ?_); refine with_tabW spec_WordCut.tab9 spec_WordCut.bits9 (fun HT_ HW_ => ?_)
                       generalize w63.drew = w64 at HB hHeld ⊢
                       refine pure_ (i := 0) (N := some 72) (v := ?_) (a' := ?_) #[true, false, false, false, false, false, false, false, false] rfl rfl (any_of HT_.out (by kernel_rfl)) (fun _ _ _ h => h) (Or.inl ⟨by rfl, ?_⟩) ?_ ?_
                       rotate_left
                       ·intro w'
                        go_simp
                        with_reducible rfl
                       rotate_left
                       ·simp only [Act.put, List.setIfInBounds_toArray, List.set_cons_zero, List.set_cons_succ, i64_w, i32_w]
                        rfl
                       refine pure_ (i := 1) (N := some 73) (v := ?_) (a' := ?_) #[true, true, false, false, false, false, false, false, false] rfl rfl (any_of HT_.out (by kernel_rfl)) (fun _ _ _ h => h) (Or.inl ⟨by rfl, ?_⟩) ?_ ?_
                       rotate_left
                       ·intro w'
                        go_simp
                        with_reducible rfl
                       rotate_left
                       ·simp only [Act.put, List.setIfInBounds_toArray, List.set_cons_zero, List.set_cons_succ, i64_w, i32_w]
                        rfl
                       refine pure_ (i := 4) (N := some 76) (v := ?_) (a' := ?_) #[true, true, false, false, true, false, false, false, false] rfl rfl (any_of HT_.out (by kernel_rfl)) (fun _ _ _ h => h) (Or.inl ⟨by rfl, ?_⟩) ?_ ?_
                       rotate_left
                       ·intro w'
                        go_simp
                        with_reducible rfl
                       rotate_left
                       ·simp only [Act.put, List.setIfInBounds_toArray, List.set_cons_zero, List.set_cons_succ, i64_w, i32_w]
                        rfl
                       refine pure_ (i := 5) (N := some 77) (v := ?_) (a' := ?_) #[true, true, false, false, true, true, false, false, false] rfl rfl (any_of HT_.out (by kernel_rfl)) (fun _ _ _ h => h) (Or.inl ⟨by rfl, ?_⟩) ?_ ?_
                       rotate_left
                       ·intro w'
                        go_simp
                        with_reducible rfl
                       rotate_left
                       ·simp only [Act.put, List.setIfInBounds_toArray, List.set_cons_zero, List.set_cons_succ, i64_w, i32_w]
                        rfl
                       refine take_ (i := 2) (N := some 74) (v := ?_) (a' := ?_) #[true, true, true, false, true, true, false, false, false] rfl rfl (take_ofW HT_.out HW_.out (by kernel_rfl)) (fun _ _ _ h => h) (Or.inl ⟨by rfl, ?_⟩) hHeld ?_ ?_
                       rotate_left
                       ·intro w' _
                        go_simp
                        with_reducible rfl
                       rotate_left
                       ·simp only [Act.put, List.setIfInBounds_toArray, List.set_cons_zero, List.set_cons_succ, i64_w, i32_w]
                        rfl
                       refine take_ (i := 6) (N := some 78) (v := ?_) (a' := ?_) #[true, true, true, false, true, true, true, false, false] rfl rfl (take_ofW HT_.out HW_.out (by kernel_rfl)) (fun _ _ _ h => h) (Or.inl ⟨by rfl, ?_⟩) hHeld ?_ ?_
                       rotate_left
                       ·intro w' _
                        go_simp
                        with_reducible rfl
                       rotate_left
                       ·simp only [Act.put, List.setIfInBounds_toArray, List.set_cons_zero, List.set_cons_succ, i64_w, i32_w]
                        rfl
                       refine one_ (i := 3) (N := some 75) #[true, true, true, true, true, true, true, false, false] rfl rfl (one_of HT_.out (by kernel_rfl)) (by decide) (fun K hK => ?_)
                       refine goes_ Tryd.func54 (by kernel_rfl) rfl #[.int .u8 (bt a0 a2)] (by rfl) rfl rfl (by (try simp only [List.map_toArray, List.map_cons, List.map_nil]); first | done | rfl | (simp only [List.length_drop, List.length_take]; rfl)) ?_
                       with_reducible refine (spec_l8Small.calls (bt a0 a2) t267 _ A45.out).mono ?_
                       rintro e w' ⟨rfl, ⟨nd, rfl⟩⟩
                       refine ⟨_, rfl, ?_⟩
                       refine hK.out _ _ trivial (fun hHeld => ?_)
                       clear hK K
                       refine norm_ (a' := ?_) ?_ ?_
                       rotate_left
                       ·show Act.put _ (some 75) _ = _
                        simp only [Act.put, List.setIfInBounds_toArray, List.set_cons_zero, List.set_cons_succ, i64_w, i32_w]
                        rfl
                       refine one_ (i := 7) (N := some 79) #[true, true, true, true, true, true, true, true, false] rfl rfl (one_of HT_.out (by kernel_rfl)) (by decide) (fun K hK => ?_)
                       refine goes_ Tryd.func54 (by kernel_rfl) rfl #[.int .u8 (bt a0 t263)] (by rfl) rfl rfl (by (try simp only [List.map_toArray, List.map_cons, List.map_nil]); first | done | rfl | (simp only [List.length_drop, List.length_take]; rfl)) ?_
                       with_reducible refine (spec_l8Small.calls (bt a0 t263) t268 _ A49.out).mono ?_
                       rintro e w' ⟨rfl, ⟨nd, rfl⟩⟩
                       refine ⟨_, rfl, ?_⟩
                       refine hK.out _ _ trivial (fun hHeld => ?_)
                       clear hK K
                       refine norm_ (a' := ?_) ?_ ?_
                       rotate_left
                       ·show Act.put _ (some 79) _ = _
                        simp only [Act.put, List.setIfInBounds_toArray, List.set_cons_zero, List.set_cons_succ, i64_w, i32_w]
                        rfl
                       refine pure_ (i := 8) (N := some 80) (v := ?_) (a' := ?_) #[true, true, true, true, true, true, true, true, true] rfl rfl (any_of HT_.out (by kernel_rfl)) (fun _ _ _ h => h) (Or.inl ⟨by rfl, ?_⟩) ?_ ?_
                       rotate_left
                       ·intro w'
                        go_simp
                        with_reducible rfl
                       rotate_left
                       ·simp only [Act.put, List.setIfInBounds_toArray, List.set_cons_zero, List.set_cons_succ, i64_w, i32_w]
                        rfl
                       refine done_ (done_of HT_.out (by kernel_rfl)) ?_
                       try go_wp2
                       go_ret2
                       exact ⟨by first | rfl | (simp [errW_none, errW_some] <;> rfl) | (simp only [← hji21, ← hji31]; first | rfl | (simp [errW_none, errW_some] <;> rfl)) | (simp [*, errW_none, errW_some] <;> rfl), by repeat (first | (with_reducible first | exact HB.out | apply below_alloc | apply pw_below_drewN | apply below_drew1) | exact HB.out)⟩
                      ·rw [if_neg c59] at H
                       exact absurd H (by simp)
                    ·rw [if_neg c47] at H
                     exact absurd H (by simp)
                   ·rw [if_neg c46] at H
                    exact absurd H (by simp)
                  ·rw [if_neg c42] at H
                   exact absurd H (by simp)
                 ·rw [if_neg c40] at H
                  exact absurd H (by simp)
                ·rw [if_neg c39] at H
                 exact absurd H (by simp)
               ·rw [if_neg c38] at H
                exact absurd H (by simp)
              ·rw [if_neg c36] at H
               exact absurd H (by simp)
             ·rw [if_neg c33] at H
              exact absurd H (by simp)
            ·rw [if_neg c32] at H
             exact absurd H (by simp)
           ·rw [if_neg c29] at H
            exact absurd H (by simp)
          ·rw [if_neg c27] at H
           exact absurd H (by simp)
         ·rw [if_neg c24] at H
          exact absurd H (by simp)
        ·rw [if_neg c23] at H
         exact absurd H (by simp)
       ·rw [if_neg c22] at H
        exact absurd H (by simp)
      ·rw [if_neg c19] at H
       exact absurd H (by simp)
     ·rw [if_neg c15] at H
      exact absurd H (by simp)
    ·rw [if_neg c14] at H
     exact absurd H (by simp)

/-! ### impl_WordCorners: function 32 -/
def impl_WordCorners.f (k : Nat) (a0 : ByteArray) : Option (Int) := (impl_WordValid.f a0).bind fun t270 => (if t270 = true then ((impl_cornersOf.f k a0).bind fun t271 => (some t271)) else (some (-1)))
set_option maxHeartbeats 8000000 in
set_option maxRecDepth 100000 in
theorem impl_WordCorners.calls (k : Nat) (a0 : ByteArray) (r : Int) (w : World) (h : impl_WordCorners.f k a0 = some r) :
    Calls Tryd.prog 32 #[.string a0] w fun e w' => e = .returned (.int .i64 r) ∧ Below w.heap.size w w' := by
 have HB := Aside0.mk (Below.refl w.heap.size w)
 have H : ((impl_WordValid.f a0).bind fun t270 => (if t270 = true then ((impl_cornersOf.f k a0).bind fun t271 => (some t271)) else (some (-1)))) = some r := h
 clear h
 replace H := Option.bind_eq_some_iff.mp H
 obtain ⟨t270, A20, H⟩ := H
 replace H : (if t270 = true then ((impl_cornersOf.f k a0).bind fun t271 => (some t271)) else (some (-1))) = some r := H
 have A2 := Aside0.mk A20
 clear A20
 by_cases c3 : t270 = true
 ·subst c3
  have H1 : ((impl_cornersOf.f k a0).bind fun t271 => (some t271)) = some r := by rw [if_pos rfl] at H; exact H
  clear H
  have H := H1
  clear H1
  replace H := Option.bind_eq_some_iff.mp H
  obtain ⟨t271, A40, H⟩ := H
  replace H : (some t271) = some r := H
  have A4 := Aside0.mk A40
  clear A40
  obtain rfl := Option.some.inj H
  go_enter Tryd.func32, Tryd.ntmps32
  go_wp2_with (first | ((with_reducible refine gate_callee (f := 31) rfl ?_); refine goesL_ (some 4) rfl rfl Tryd.func31 (by kernel_rfl) rfl #[.string a0] rfl (by (try simp only [List.map_toArray, List.map_cons, List.map_nil]); first | done | rfl | (simp only [List.length_drop, List.length_take]; rfl)) ?_; (with_reducible refine (impl_WordValid.calls a0 true _ A2.out).mono ?_); rintro e w5 ⟨rfl, hb⟩; refine ⟨_, rfl, ?_⟩; have n0_ := Aside0.mk (below_step (by repeat (first | (with_reducible first | exact HB.out | apply below_alloc | apply pw_below_drewN | apply below_drew1) | exact HB.out)) hb); clear HB; have HB := n0_; clear n0_; (try clear hb); (try clear hb2); (try clear hk); (try clear hi)) | ((with_reducible refine gate_callee (f := 47) rfl ?_); refine goesL_ (some 7) rfl rfl Tryd.func47 (by kernel_rfl) rfl #[.string a0] rfl (by (try simp only [List.map_toArray, List.map_cons, List.map_nil]); first | done | rfl | (simp only [List.length_drop, List.length_take]; rfl)) ?_; (with_reducible refine (impl_cornersOf.calls k a0 t271 _ A4.out).mono ?_); rintro e w6 ⟨rfl, hb⟩; refine ⟨_, rfl, ?_⟩; have n0_ := Aside0.mk (below_step (by repeat (first | (with_reducible first | exact HB.out | apply below_alloc | apply pw_below_drewN | apply below_drew1) | exact HB.out)) hb); clear HB; have HB := n0_; clear n0_; (try clear hb); (try clear hb2); (try clear hk); (try clear hi)))
  go_ret
  exact ⟨by first | rfl | (simp [errW_none, errW_some] <;> rfl) | (simp [*, errW_none, errW_some] <;> rfl), by repeat (first | (with_reducible first | exact HB.out | apply below_alloc | apply pw_below_drewN | apply below_drew1) | exact HB.out)⟩
 ·replace c3 := Bool.eq_false_iff.mpr c3
  subst c3
  have H1 : (some (-1)) = some r := by rw [if_neg (show ¬ (false = true) by decide)] at H; exact H
  clear H
  have H := H1
  clear H1
  obtain rfl := Option.some.inj H
  go_enter Tryd.func32, Tryd.ntmps32
  go_wp2_with (first | ((with_reducible refine gate_callee (f := 31) rfl ?_); refine goesL_ (some 4) rfl rfl Tryd.func31 (by kernel_rfl) rfl #[.string a0] rfl (by (try simp only [List.map_toArray, List.map_cons, List.map_nil]); first | done | rfl | (simp only [List.length_drop, List.length_take]; rfl)) ?_; (with_reducible refine (impl_WordValid.calls a0 false _ A2.out).mono ?_); rintro e w7 ⟨rfl, hb⟩; refine ⟨_, rfl, ?_⟩; have n0_ := Aside0.mk (below_step (by repeat (first | (with_reducible first | exact HB.out | apply below_alloc | apply pw_below_drewN | apply below_drew1) | exact HB.out)) hb); clear HB; have HB := n0_; clear n0_; (try clear hb); (try clear hb2); (try clear hk); (try clear hi)))
  go_ret
  exact ⟨by first | rfl | (simp [errW_none, errW_some] <;> rfl) | (simp [*, errW_none, errW_some] <;> rfl), by repeat (first | (with_reducible first | exact HB.out | apply below_alloc | apply pw_below_drewN | apply below_drew1) | exact HB.out)⟩

end Go.Proofs.YtpfnchjbbagmdaaDoor.PFnWordCut
