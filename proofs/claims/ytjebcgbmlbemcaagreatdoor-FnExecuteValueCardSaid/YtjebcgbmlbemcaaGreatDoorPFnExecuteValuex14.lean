-- Made by a program of this session (wip/tools) out of the loaded program; not trusted: Lean checks it.
import Derived.Test.YtjebcgbmlbemcaaGreatDoorPFnExecuteValuex0
import Derived.Test.YtjebcgbmlbemcaaGreatDoorPFnExecuteValuex4
import Derived.Test.YtjebcgbmlbemcaaGreatDoorPFnExecuteValuex5
import Derived.Test.YtjebcgbmlbemcaaGreatDoorPFnExecuteValuex6
import Derived.Test.YtjebcgbmlbemcaaGreatDoorPFnExecuteValuex10
import Derived.Test.YtjebcgbmlbemcaaGreatDoorPFnExecuteValuex13
-- packed
namespace Go.Proofs.YtjebcgbmlbemcaaGreatDoor.PFnExecuteValue
open Go.RowKit Go.Proofs.YtjebcgbmlbemcaaGreatDoorW.PrintWords Go.Proofs.YtjebcgbmlbemcaaGreatDoorW.PrintLast Go.Proofs.YtjebcgbmlbemcaaGreatDoorW.PrintMore
attribute [local go_sem] max2_int min2_int max_two min_two max_three min_three max_four min_four   -- for this text's walks alone
set_option linter.unusedVariables false
set_option linter.unusedSimpArgs false

/-! ### laws_FnExecuteValue: function 4 -/
def laws_FnExecuteValue.j0 : Nat → Int → Int → Int → Int → Int → Bool → List Int → List Int → Option (Bool)
  | 0, _, _, _, _, _, _, _, _ => none
  | k + 1, x4, x5, x6, x7, x8, x35, x489000, x489001 => if x35 = true then (some (x7 == x8)) else ((laws_mapLine.f k x489000 x489001).bind fun t491 => (if t491.size + 6 ≤ 9223372036854775807 then ((laws_digits.f k x4).bind fun t492 => (if (t491 ++ (⟨#[118, 97, 108, 117, 101, 32]⟩ : ByteArray)).size + t492.size ≤ 9223372036854775807 then (if ((t491 ++ (⟨#[118, 97, 108, 117, 101, 32]⟩ : ByteArray)) ++ t492).size + 1 ≤ 9223372036854775807 then ((laws_digits.f k x5).bind fun t493 => (if (((t491 ++ (⟨#[118, 97, 108, 117, 101, 32]⟩ : ByteArray)) ++ t492) ++ (⟨#[32]⟩ : ByteArray)).size + t493.size ≤ 9223372036854775807 then (if ((((t491 ++ (⟨#[118, 97, 108, 117, 101, 32]⟩ : ByteArray)) ++ t492) ++ (⟨#[32]⟩ : ByteArray)) ++ t493).size + 1 ≤ 9223372036854775807 then ((laws_digits.f k x6).bind fun t494 => (if (((((t491 ++ (⟨#[118, 97, 108, 117, 101, 32]⟩ : ByteArray)) ++ t492) ++ (⟨#[32]⟩ : ByteArray)) ++ t493) ++ (⟨#[32]⟩ : ByteArray)).size + t494.size ≤ 9223372036854775807 then (if ((((((t491 ++ (⟨#[118, 97, 108, 117, 101, 32]⟩ : ByteArray)) ++ t492) ++ (⟨#[32]⟩ : ByteArray)) ++ t493) ++ (⟨#[32]⟩ : ByteArray)) ++ t494).size + 1 ≤ 9223372036854775807 then ((impl_Execute.f k (((((((t491 ++ (⟨#[118, 97, 108, 117, 101, 32]⟩ : ByteArray)) ++ t492) ++ (⟨#[32]⟩ : ByteArray)) ++ t493) ++ (⟨#[32]⟩ : ByteArray)) ++ t494) ++ (⟨#[10]⟩ : ByteArray))).bind fun t495 => ((laws_digits.f k x7).bind fun t496 => (if 3 + t496.size ≤ 9223372036854775807 then (if ((⟨#[111, 107, 10]⟩ : ByteArray) ++ t496).size + 1 ≤ 9223372036854775807 then ((laws_endLine.f k (x489000.length : Int)).bind fun t497 => (if (((⟨#[111, 107, 10]⟩ : ByteArray) ++ t496) ++ (⟨#[10]⟩ : ByteArray)).size + t497.size ≤ 9223372036854775807 then (some (t495.toList == ((((⟨#[111, 107, 10]⟩ : ByteArray) ++ t496) ++ (⟨#[10]⟩ : ByteArray)) ++ t497).toList)) else (none))) else (none)) else (none)))) else (none)) else (none))) else (none)) else (none))) else (none)) else (none))) else (none)))
def laws_FnExecuteValue.f (k : Nat) (l0 : List Int) : Option (Bool) := if (l0.length : Int) > 1048576 then (some true) else ((spec_DrawRibbonValue.f k l0).bind fun bt479 => ((impl_RibbonValue.f k bt479.1 bt479.2.1 bt479.2.2.1 bt479.2.2.2.1 bt479.2.2.2.2).bind fun t489 => ((spec_RibbonValue.f k bt479.1 bt479.2.1 bt479.2.2.1 bt479.2.2.2.1 bt479.2.2.2.2).bind fun t490 => (if t489 = t490 then (laws_FnExecuteValue.j0 k bt479.2.2.1 bt479.2.2.2.1 bt479.2.2.2.2 t489 t490 (decide (t489 < 0)) bt479.1 bt479.2.1) else (laws_FnExecuteValue.j0 k bt479.2.2.1 bt479.2.2.2.1 bt479.2.2.2.2 t489 t490 true bt479.1 bt479.2.1)))))
def laws_FnExecuteValue.T8 : Bool × List (List Nat × List Nat) := (true, [([], []), ([0], [0]), ([1], [1]), ([], []), ([3, 1], [3]), ([2, 4], [2, 4]), ([5], [5]), ([], []), ([7, 4], [7]), ([6, 8], [6, 8]), ([9], [9]), ([], []), ([11, 8], [11]), ([10, 12], [10, 12]), ([13], [13]), ([14, 12], [14]), ([], []), ([16, 15], [16]), ([17], [17]), ([18], [18]), ([], []), ([20], [20]), ([21], [21]), ([22, 17], [22]), ([19, 23], [19, 23]), ([15, 24], [15, 24]), ([25, 23, 0, 1, 2, 3, 4, 5, 6, 7, 8, 9, 10, 11, 12, 13, 14, 15, 16, 17, 18, 19, 20, 21, 22, 23, 24, 25], [25])])
def laws_FnExecuteValue.B8 : List Nat := [0, 1, 3, 0, 11, 31, 63, 0, 155, 511, 1023, 0, 2459, 8191, 16383, 32767, 0, 131071, 262143, 524287, 0, 1048576, 3145728, 7602175, 16777215, 33554431, 67108863]
theorem laws_FnExecuteValue.tab8 : rtab .any (opsOf Tryz.f4 8) = laws_FnExecuteValue.T8 := by kernel_rfl
theorem laws_FnExecuteValue.bits8 : waitsOk laws_FnExecuteValue.T8.2 laws_FnExecuteValue.B8 = true := by kernel_rfl
set_option maxHeartbeats 8000000 in
set_option maxRecDepth 100000 in
theorem laws_FnExecuteValue.calls (k : Nat) (A0 : Option Addr) (c0 : Nat) (l0 : List Int) (r : Bool) (w : World) (htab : XE.Tab w) (hr0 : Kd.C (Kd.int .u8) w A0 l0.length l0) (hc0 : l0.length ≤ c0) (h : laws_FnExecuteValue.f k l0 = some r) :
    Calls Tryz.prog 4 #[.slice A0 l0.length c0] w fun e w' => e = .returned (.bool r) ∧ Below w.heap.size w w' := by
 have hu25 := Tryz.underlying25; have HR0 := A0_ hr0; have HC0 := A0_ hc0; clear hr0 hc0
 have HB := A0_ (Below.refl w.heap.size w)
 have HTAB := A0_ htab
 clear htab
 have H : (if (l0.length : Int) > 1048576 then (some true) else ((spec_DrawRibbonValue.f k l0).bind fun bt479 => ((impl_RibbonValue.f k bt479.1 bt479.2.1 bt479.2.2.1 bt479.2.2.2.1 bt479.2.2.2.2).bind fun t489 => ((spec_RibbonValue.f k bt479.1 bt479.2.1 bt479.2.2.1 bt479.2.2.2.1 bt479.2.2.2.2).bind fun t490 => (if t489 = t490 then (laws_FnExecuteValue.j0 k bt479.2.2.1 bt479.2.2.2.1 bt479.2.2.2.2 t489 t490 (decide (t489 < 0)) bt479.1 bt479.2.1) else (laws_FnExecuteValue.j0 k bt479.2.2.1 bt479.2.2.2.1 bt479.2.2.2.2 t489 t490 true bt479.1 bt479.2.1)))))) = some r := h
 clear h
 by_cases c2 : (l0.length : Int) > 1048576
 ·rw [if_pos c2] at H
  have c2b0 : decide (1048576 < (l0.length : Int)) = true := dT c2
  have c2b1 : decide (1048576 < l0.length) = true := dT (by omega)
  clear c2; obtain rfl := sI H
  go_enter Tryz.func4, Tryz.ntmps4
  go_wp2
  go_ret
  exact ⟨by first | rfl | (simp [*] <;> rfl), zB_ HB⟩
 rw [if_neg c2] at H
 have c2b0 : decide (1048576 < (l0.length : Int)) = false := dF c2
 have c2b1 : decide (1048576 < l0.length) = false := dF (by omega)
 clear c2; obtain ⟨⟨t479, t482, t485, t486, t487⟩, A3, H⟩ := zbind H; dsimp only at H; obtain ⟨t489, A4, H⟩ := zbind H; obtain ⟨t490, A5, H⟩ := zbind H; have HC6 := A0_ H; clear H
 go_enter Tryz.func4, Tryz.ntmps4
 go_upto_region 6 with (first | ((with_reducible refine gC (f := 14) rfl ?_); refine zJ (some 14) Tryz.func14 #[.slice A0 l0.length c0] ?_; (with_reducible refine (spec_DrawRibbonValue.calls k _ _ l0 t479 t482 t485 t486 t487 _ ?side1 ?side2 A3.out).mono ?_); (case side1 => repeat (first | exact HR0.out | (with_reducible refine cA ?_ _) | (with_reducible refine cN ?_ _) | (with_reducible refine cD ?_))); (case side2 => exact HC0.out); rintro e w7 ⟨v480, v483, rfl, ho0, ho1, hb⟩; refine ⟨_, rfl, ?_⟩; have HO481 := A0_ (Kd.Q_lower ho0 (bZ (zB_ HB))); have HO484 := A0_ (rL ho1 (bZ (zB_ HB))); replace HB := zB HB hb; (try clear hb); (try clear ho0); (try clear ho1)) | ((with_reducible refine gD (N := 3) rfl ?_); refine zX (N := 3) (cs := #[.slice none 0 0, .slice none 0 0]) (t := 25) ?_; intro gb488 hg w8 hbox hb; replace HO481 := A0_ (Kd.Q_below (zQ_ HO481) hb); replace HO484 := zR HO484 hb; have BK488 := A0_ (hbox); have GW488 := zG hg HB; have GE488 := zG hg HB; replace HB := zB HB hb; clear hb hbox hg; obtain ⟨Ao9, co9, eo9, _⟩ := Kd.Q_slice HO481.out; subst eo9; have hcz10_0 := zc0 BK488; have hcz10_1 := zc1 BK488; have hfz10_0 := kF BK488.out 0; have hfz10_1 := kF BK488.out 1; obtain ⟨Ao11, co11, eo11⟩ := rS HO484.out; subst eo11) | ((with_reducible refine gC (f := 15) rfl ?_); refine zJ (some 23) Tryz.func15 #[.agg #[.slice Ao9 t479.length co9, .slice Ao11 t482.length co11], .int .i64 t485, .int .i64 t486, .int .i64 t487] ?_; (with_reducible refine (impl_RibbonValue.calls k _ _ t479 _ _ t482 t485 t486 t487 t489 _ ?side1 ?side2 ?side3 ?side4 A4.out).mono ?_); (case side1 => refine (Kd.Q_reads' (e := 3) (base := w.heap.size) (ok := fun k_ => some k_ ≠ (.slice Ao11 t482.length co11 : Value).ownBlock) (n := t479.length) (c := co9) ?_).2.2; exact (by (with_reducible repeat (first | apply Kd.Q_alloc | apply Kd.Q_drewN | apply Kd.Q_drew)); exact (Kd.Q_mono (Kd.Q_far (p := ⟨gb488, 1, none⟩) (Kd.Q_far (p := ⟨gb488, 0, none⟩) (Kd.Q_types HO481.out BK488.out (by decide)) (fun _ hk => hk.2) (.slice Ao9 t479.length co9)) (fun _ hk => hk.2) (.slice Ao11 t482.length co11)) (fun _ h_ => h_.1)))); (case side2 => exact (Kd.Q_reads' HO481.out).2.1); (case side3 => refine (rR (e := 3) (base := w.heap.size) (ok := fun k_ => some k_ ≠ (.slice Ao9 t479.length co9 : Value).ownBlock) (n := t482.length) (c := co11) ?_).2.2; exact (zF HO484 BK488 (.slice Ao9 t479.length co9) (.slice Ao11 t482.length co11) 0 1)); (case side4 => exact (rR HO484.out).2.1); rintro e w12 ⟨rfl, hb⟩; refine ⟨_, rfl, ?_⟩; replace HO481 := A0_ (Kd.Q_below (by (with_reducible repeat (first | apply Kd.Q_alloc | apply Kd.Q_drewN | apply Kd.Q_drew)); exact (Kd.Q_mono (Kd.Q_far (p := ⟨gb488, 1, none⟩) (Kd.Q_far (p := ⟨gb488, 0, none⟩) (Kd.Q_types HO481.out BK488.out (by decide)) (fun _ hk => hk.2) (.slice Ao9 t479.length co9)) (fun _ hk => hk.2) (.slice Ao11 t482.length co11)) (fun _ h_ => h_.1))) hb); replace HO484 := A0_ (rB (zF HO484 BK488 (.slice Ao9 t479.length co9) (.slice Ao11 t482.length co11) 0 1) hb); replace BK488 := A0_ (kB (g := gb488) (o := .cells #[.slice Ao9 t479.length co9, .slice Ao11 t482.length co11] 25 (0, 0)) (by (with_reducible repeat (first | refine kN ?_ _ | refine kD ?_ | refine kA ?_ _)); refine blk_put (cs := #[.slice Ao9 t479.length co9, .slice none 0 0]) ?_ 1 _ rfl; (with_reducible repeat (first | refine kN ?_ _ | refine kD ?_ | refine kA ?_ _)); refine blk_put (cs := #[.slice none 0 0, .slice none 0 0]) ?_ 0 _ rfl; (with_reducible repeat (first | refine kN ?_ _ | refine kD ?_ | refine kA ?_ _)); exact BK488.out) hb); replace HB := zB HB hb; (try clear hb); have hcz13_0 := zc0 BK488; have hcz13_1 := zc1 BK488; have hfz13_0 := kF BK488.out 0; have hfz13_1 := kF BK488.out 1) | ((with_reducible refine gC (f := 16) rfl ?_); refine zJ (some 28) Tryz.func16 #[.agg #[.slice Ao9 t479.length co9, .slice Ao11 t482.length co11], .int .i64 t485, .int .i64 t486, .int .i64 t487] ?_; (with_reducible refine (spec_RibbonValue.calls k _ _ t479 _ _ t482 t485 t486 t487 t490 _ ?side1 ?side2 ?side3 ?side4 A5.out).mono ?_); (case side1 => exact zDQ HO481); (case side2 => exact (Kd.Q_reads' HO481.out).2.1); (case side3 => exact zD HO484); (case side4 => exact (rR HO484.out).2.1); rintro e w14 ⟨rfl, hb⟩; refine ⟨_, rfl, ?_⟩; replace HO481 := A0_ (Kd.Q_below (zQ_ HO481) hb); replace HO484 := zR HO484 hb; replace BK488 := zK BK488 hb; replace HB := zB HB hb; (try clear hb)))
 (try simp only [Act.put, List.setIfInBounds_toArray, List.set_cons_zero, List.set_cons_succ])
 go_cut [35] (fun v35 wc => ∃ (kq : Nat) (x35_5 : Bool), v35 = .bool x35_5 ∧ Aside0 (laws_FnExecuteValue.j0 kq t485 t486 t487 t489 t490 x35_5 t479 t482 = some r) ∧ Aside0 (kq ≤ k) ∧ Aside0 (Kd.Q (Kd.int .i64) 3 wc w.heap.size (fun k_ => some k_ ≠ ((.slice Ao11 t482.length co11) : Value).ownBlock) (.slice Ao9 t479.length co9) t479) ∧ Aside0 (Kd.R (Kd.int .i64) 3 wc w.heap.size (fun k_ => some k_ ≠ ((.slice Ao9 t479.length co9) : Value).ownBlock) (.slice Ao11 t482.length co11) t482) ∧ Aside0 (wc.heap[gb488]? = some (.cells #[(.slice Ao9 t479.length co9), (.slice Ao11 t482.length co11)] 25 (0, 0))) ∧ Aside0 (Below w.heap.size w wc))
 case first =>
  have H := HC6.out; clear HC6
  by_cases c15 : t489 = t490
  ·rw [if_pos c15] at H
   have c15b0 : (t489 == t490) = true := beq_iff_eq.mpr c15
   have c15b1 : (t489 != t490) = false := bne_eq_false_iff_eq.mpr c15
   clear c15
   (first | rw [c15b0] | (simp only [i64_w, i32_w]; rw [c15b0]) | skip)
   have H' := A0_ H; clear H
   go_wp2
   go_meet
   case rel => exact ⟨_, (decide (t489 < 0)), zt, H', zo, ⟨zQ_ HO481⟩, ⟨zR_ HO484⟩, ⟨zK_ BK488⟩, ⟨zB_ HB⟩⟩
  rw [if_neg c15] at H
  have c15b0 : (t489 == t490) = false := beq_eq_false_iff_ne.mpr c15
  have c15b1 : (t489 != t490) = true := bne_iff_ne.mpr c15
  (first | rw [c15b0] | (simp only [i64_w, i32_w]; rw [c15b0]) | skip)
  have H' := A0_ H; clear H
  go_wp2
  go_meet
  case rel => exact ⟨_, (true), zt, H', zo, ⟨zQ_ HO481⟩, ⟨zR_ HO484⟩, ⟨zK_ BK488⟩, ⟨zB_ HB⟩⟩
 case rest =>
  clear HC6; (try clear c1); (try clear c2); (try clear c2b0); (try clear c2b1); (try clear p2); (try clear c4); (try clear c14); (try clear c15); (try clear c15b0); (try clear c15b1); (try clear hcz10_0); (try clear hcz10_1); (try clear hcz13_0); (try clear hcz13_1); (try clear hfz10_0); (try clear hfz10_1); (try clear hfz13_0); (try clear hfz13_1); obtain ⟨kq, x35_5, rfl, HA, HJ5, HO_489000, HO_489001, BK488, HB⟩ := hcut
  cases kq with
  | zero => exact absurd HA.out (by simp [laws_FnExecuteValue.j0])
  | succ kj5 =>
   have H := HA.out; clear HA; simp only [laws_FnExecuteValue.j0] at H
   by_cases c16 : x35_5 = true
   ·subst c16
    rw [if_pos rfl] at H; obtain rfl := sI H
    go_wp2
    go_ret
    exact ⟨by first | rfl | (simp [*] <;> rfl), zB_ HB⟩
   replace c16 := Bool.eq_false_iff.mpr c16; subst c16
   rw [if_neg (show ¬ (false = true) by decide)] at H
   obtain ⟨t491, A17, H⟩ := zbind H
   by_cases c18 : t491.size + 6 ≤ 9223372036854775807
   ·rw [if_pos c18] at H
    have c18b0 := eq_true c18; have c18b1 := dT c18
    try have c18b2 : (9223372036854775807 < t491.size + 6) = False := eq_false (Nat.not_lt.2 c18)
    obtain ⟨zs19, hzs19⟩ : ∃ j_ : ByteArray, (t491 ++ (⟨#[118, 97, 108, 117, 101, 32]⟩ : ByteArray)) = j_ := ⟨_, rfl⟩
    replace H : ((laws_digits.f kj5 t485).bind fun t492 => (if zs19.size + t492.size ≤ 9223372036854775807 then (if (zs19 ++ t492).size + 1 ≤ 9223372036854775807 then ((laws_digits.f kj5 t486).bind fun t493 => (if ((zs19 ++ t492) ++ (⟨#[32]⟩ : ByteArray)).size + t493.size ≤ 9223372036854775807 then (if (((zs19 ++ t492) ++ (⟨#[32]⟩ : ByteArray)) ++ t493).size + 1 ≤ 9223372036854775807 then ((laws_digits.f kj5 t487).bind fun t494 => (if ((((zs19 ++ t492) ++ (⟨#[32]⟩ : ByteArray)) ++ t493) ++ (⟨#[32]⟩ : ByteArray)).size + t494.size ≤ 9223372036854775807 then (if (((((zs19 ++ t492) ++ (⟨#[32]⟩ : ByteArray)) ++ t493) ++ (⟨#[32]⟩ : ByteArray)) ++ t494).size + 1 ≤ 9223372036854775807 then ((impl_Execute.f kj5 ((((((zs19 ++ t492) ++ (⟨#[32]⟩ : ByteArray)) ++ t493) ++ (⟨#[32]⟩ : ByteArray)) ++ t494) ++ (⟨#[10]⟩ : ByteArray))).bind fun t495 => ((laws_digits.f kj5 t489).bind fun t496 => (if 3 + t496.size ≤ 9223372036854775807 then (if ((⟨#[111, 107, 10]⟩ : ByteArray) ++ t496).size + 1 ≤ 9223372036854775807 then ((laws_endLine.f kj5 (t479.length : Int)).bind fun t497 => (if (((⟨#[111, 107, 10]⟩ : ByteArray) ++ t496) ++ (⟨#[10]⟩ : ByteArray)).size + t497.size ≤ 9223372036854775807 then (some (t495.toList == ((((⟨#[111, 107, 10]⟩ : ByteArray) ++ t496) ++ (⟨#[10]⟩ : ByteArray)) ++ t497).toList)) else (none))) else (none)) else (none)))) else (none)) else (none))) else (none)) else (none))) else (none)) else (none))) = some r := by first | (rw [hzs19] at H; exact H) | (simp only [hzs19] at H ⊢; exact H) | exact H
    (try rw [hzs19] at A17)
    obtain ⟨t492, A20, H⟩ := zbind H
    by_cases c21 : zs19.size + t492.size ≤ 9223372036854775807
    ·rw [if_pos c21] at H
     have c21b0 := eq_true c21; have c21b1 := dT c21
     try have c21b2 : (9223372036854775807 < zs19.size + t492.size) = False := eq_false (Nat.not_lt.2 c21)
     obtain ⟨zs22, hzs22⟩ : ∃ j_ : ByteArray, (zs19 ++ t492) = j_ := ⟨_, rfl⟩
     replace H : (if zs22.size + 1 ≤ 9223372036854775807 then ((laws_digits.f kj5 t486).bind fun t493 => (if (zs22 ++ (⟨#[32]⟩ : ByteArray)).size + t493.size ≤ 9223372036854775807 then (if ((zs22 ++ (⟨#[32]⟩ : ByteArray)) ++ t493).size + 1 ≤ 9223372036854775807 then ((laws_digits.f kj5 t487).bind fun t494 => (if (((zs22 ++ (⟨#[32]⟩ : ByteArray)) ++ t493) ++ (⟨#[32]⟩ : ByteArray)).size + t494.size ≤ 9223372036854775807 then (if ((((zs22 ++ (⟨#[32]⟩ : ByteArray)) ++ t493) ++ (⟨#[32]⟩ : ByteArray)) ++ t494).size + 1 ≤ 9223372036854775807 then ((impl_Execute.f kj5 (((((zs22 ++ (⟨#[32]⟩ : ByteArray)) ++ t493) ++ (⟨#[32]⟩ : ByteArray)) ++ t494) ++ (⟨#[10]⟩ : ByteArray))).bind fun t495 => ((laws_digits.f kj5 t489).bind fun t496 => (if 3 + t496.size ≤ 9223372036854775807 then (if ((⟨#[111, 107, 10]⟩ : ByteArray) ++ t496).size + 1 ≤ 9223372036854775807 then ((laws_endLine.f kj5 (t479.length : Int)).bind fun t497 => (if (((⟨#[111, 107, 10]⟩ : ByteArray) ++ t496) ++ (⟨#[10]⟩ : ByteArray)).size + t497.size ≤ 9223372036854775807 then (some (t495.toList == ((((⟨#[111, 107, 10]⟩ : ByteArray) ++ t496) ++ (⟨#[10]⟩ : ByteArray)) ++ t497).toList)) else (none))) else (none)) else (none)))) else (none)) else (none))) else (none)) else (none))) else (none)) = some r := by first | (rw [hzs22] at H; exact H) | (simp only [hzs22] at H ⊢; exact H) | exact H
     (try rw [hzs22] at A17)
     (try rw [hzs22] at A20)
     by_cases c23 : zs22.size + 1 ≤ 9223372036854775807
     ·rw [if_pos c23] at H
      have c23b0 := eq_true c23; have c23b1 := dT c23
      try have c23b2 : (9223372036854775807 < zs22.size + 1) = False := eq_false (Nat.not_lt.2 c23)
      obtain ⟨zs24, hzs24⟩ : ∃ j_ : ByteArray, (zs22 ++ (⟨#[32]⟩ : ByteArray)) = j_ := ⟨_, rfl⟩
      replace H : ((laws_digits.f kj5 t486).bind fun t493 => (if zs24.size + t493.size ≤ 9223372036854775807 then (if (zs24 ++ t493).size + 1 ≤ 9223372036854775807 then ((laws_digits.f kj5 t487).bind fun t494 => (if ((zs24 ++ t493) ++ (⟨#[32]⟩ : ByteArray)).size + t494.size ≤ 9223372036854775807 then (if (((zs24 ++ t493) ++ (⟨#[32]⟩ : ByteArray)) ++ t494).size + 1 ≤ 9223372036854775807 then ((impl_Execute.f kj5 ((((zs24 ++ t493) ++ (⟨#[32]⟩ : ByteArray)) ++ t494) ++ (⟨#[10]⟩ : ByteArray))).bind fun t495 => ((laws_digits.f kj5 t489).bind fun t496 => (if 3 + t496.size ≤ 9223372036854775807 then (if ((⟨#[111, 107, 10]⟩ : ByteArray) ++ t496).size + 1 ≤ 9223372036854775807 then ((laws_endLine.f kj5 (t479.length : Int)).bind fun t497 => (if (((⟨#[111, 107, 10]⟩ : ByteArray) ++ t496) ++ (⟨#[10]⟩ : ByteArray)).size + t497.size ≤ 9223372036854775807 then (some (t495.toList == ((((⟨#[111, 107, 10]⟩ : ByteArray) ++ t496) ++ (⟨#[10]⟩ : ByteArray)) ++ t497).toList)) else (none))) else (none)) else (none)))) else (none)) else (none))) else (none)) else (none))) = some r := by first | (rw [hzs24] at H; exact H) | (simp only [hzs24] at H ⊢; exact H) | exact H
      (try rw [hzs24] at A17)
      (try rw [hzs24] at A20)
      obtain ⟨t493, A25, H⟩ := zbind H
      by_cases c26 : zs24.size + t493.size ≤ 9223372036854775807
      ·rw [if_pos c26] at H
       have c26b0 := eq_true c26; have c26b1 := dT c26
       try have c26b2 : (9223372036854775807 < zs24.size + t493.size) = False := eq_false (Nat.not_lt.2 c26)
       obtain ⟨zs27, hzs27⟩ : ∃ j_ : ByteArray, (zs24 ++ t493) = j_ := ⟨_, rfl⟩
       replace H : (if zs27.size + 1 ≤ 9223372036854775807 then ((laws_digits.f kj5 t487).bind fun t494 => (if (zs27 ++ (⟨#[32]⟩ : ByteArray)).size + t494.size ≤ 9223372036854775807 then (if ((zs27 ++ (⟨#[32]⟩ : ByteArray)) ++ t494).size + 1 ≤ 9223372036854775807 then ((impl_Execute.f kj5 (((zs27 ++ (⟨#[32]⟩ : ByteArray)) ++ t494) ++ (⟨#[10]⟩ : ByteArray))).bind fun t495 => ((laws_digits.f kj5 t489).bind fun t496 => (if 3 + t496.size ≤ 9223372036854775807 then (if ((⟨#[111, 107, 10]⟩ : ByteArray) ++ t496).size + 1 ≤ 9223372036854775807 then ((laws_endLine.f kj5 (t479.length : Int)).bind fun t497 => (if (((⟨#[111, 107, 10]⟩ : ByteArray) ++ t496) ++ (⟨#[10]⟩ : ByteArray)).size + t497.size ≤ 9223372036854775807 then (some (t495.toList == ((((⟨#[111, 107, 10]⟩ : ByteArray) ++ t496) ++ (⟨#[10]⟩ : ByteArray)) ++ t497).toList)) else (none))) else (none)) else (none)))) else (none)) else (none))) else (none)) = some r := by first | (rw [hzs27] at H; exact H) | (simp only [hzs27] at H ⊢; exact H) | exact H
       (try rw [hzs27] at A17)
       (try rw [hzs27] at A20)
       (try rw [hzs27] at A25)
       by_cases c28 : zs27.size + 1 ≤ 9223372036854775807
       ·rw [if_pos c28] at H
        have c28b0 := eq_true c28; have c28b1 := dT c28
        try have c28b2 : (9223372036854775807 < zs27.size + 1) = False := eq_false (Nat.not_lt.2 c28)
        obtain ⟨zs29, hzs29⟩ : ∃ j_ : ByteArray, (zs27 ++ (⟨#[32]⟩ : ByteArray)) = j_ := ⟨_, rfl⟩
        replace H : ((laws_digits.f kj5 t487).bind fun t494 => (if zs29.size + t494.size ≤ 9223372036854775807 then (if (zs29 ++ t494).size + 1 ≤ 9223372036854775807 then ((impl_Execute.f kj5 ((zs29 ++ t494) ++ (⟨#[10]⟩ : ByteArray))).bind fun t495 => ((laws_digits.f kj5 t489).bind fun t496 => (if 3 + t496.size ≤ 9223372036854775807 then (if ((⟨#[111, 107, 10]⟩ : ByteArray) ++ t496).size + 1 ≤ 9223372036854775807 then ((laws_endLine.f kj5 (t479.length : Int)).bind fun t497 => (if (((⟨#[111, 107, 10]⟩ : ByteArray) ++ t496) ++ (⟨#[10]⟩ : ByteArray)).size + t497.size ≤ 9223372036854775807 then (some (t495.toList == ((((⟨#[111, 107, 10]⟩ : ByteArray) ++ t496) ++ (⟨#[10]⟩ : ByteArray)) ++ t497).toList)) else (none))) else (none)) else (none)))) else (none)) else (none))) = some r := by first | (rw [hzs29] at H; exact H) | (simp only [hzs29] at H ⊢; exact H) | exact H
        (try rw [hzs29] at A17)
        (try rw [hzs29] at A20)
        (try rw [hzs29] at A25)
        obtain ⟨t494, A30, H⟩ := zbind H
        by_cases c31 : zs29.size + t494.size ≤ 9223372036854775807
        ·rw [if_pos c31] at H
         have c31b0 := eq_true c31; have c31b1 := dT c31
         try have c31b2 : (9223372036854775807 < zs29.size + t494.size) = False := eq_false (Nat.not_lt.2 c31)
         obtain ⟨zs32, hzs32⟩ : ∃ j_ : ByteArray, (zs29 ++ t494) = j_ := ⟨_, rfl⟩
         replace H : (if zs32.size + 1 ≤ 9223372036854775807 then ((impl_Execute.f kj5 (zs32 ++ (⟨#[10]⟩ : ByteArray))).bind fun t495 => ((laws_digits.f kj5 t489).bind fun t496 => (if 3 + t496.size ≤ 9223372036854775807 then (if ((⟨#[111, 107, 10]⟩ : ByteArray) ++ t496).size + 1 ≤ 9223372036854775807 then ((laws_endLine.f kj5 (t479.length : Int)).bind fun t497 => (if (((⟨#[111, 107, 10]⟩ : ByteArray) ++ t496) ++ (⟨#[10]⟩ : ByteArray)).size + t497.size ≤ 9223372036854775807 then (some (t495.toList == ((((⟨#[111, 107, 10]⟩ : ByteArray) ++ t496) ++ (⟨#[10]⟩ : ByteArray)) ++ t497).toList)) else (none))) else (none)) else (none)))) else (none)) = some r := by first | (rw [hzs32] at H; exact H) | (simp only [hzs32] at H ⊢; exact H) | exact H
         (try rw [hzs32] at A17)
         (try rw [hzs32] at A20)
         (try rw [hzs32] at A25)
         (try rw [hzs32] at A30)
         by_cases c33 : zs32.size + 1 ≤ 9223372036854775807
         ·rw [if_pos c33] at H
          have c33b0 := eq_true c33; have c33b1 := dT c33
          try have c33b2 : (9223372036854775807 < zs32.size + 1) = False := eq_false (Nat.not_lt.2 c33)
          obtain ⟨zs34, hzs34⟩ : ∃ j_ : ByteArray, (zs32 ++ (⟨#[10]⟩ : ByteArray)) = j_ := ⟨_, rfl⟩
          replace H : ((impl_Execute.f kj5 zs34).bind fun t495 => ((laws_digits.f kj5 t489).bind fun t496 => (if 3 + t496.size ≤ 9223372036854775807 then (if ((⟨#[111, 107, 10]⟩ : ByteArray) ++ t496).size + 1 ≤ 9223372036854775807 then ((laws_endLine.f kj5 (t479.length : Int)).bind fun t497 => (if (((⟨#[111, 107, 10]⟩ : ByteArray) ++ t496) ++ (⟨#[10]⟩ : ByteArray)).size + t497.size ≤ 9223372036854775807 then (some (t495.toList == ((((⟨#[111, 107, 10]⟩ : ByteArray) ++ t496) ++ (⟨#[10]⟩ : ByteArray)) ++ t497).toList)) else (none))) else (none)) else (none)))) = some r := by first | (rw [hzs34] at H; exact H) | (simp only [hzs34] at H ⊢; exact H) | exact H
          (try rw [hzs34] at A17)
          (try rw [hzs34] at A20)
          (try rw [hzs34] at A25)
          (try rw [hzs34] at A30)
          obtain ⟨t495, A35, H⟩ := zbind H; obtain ⟨t496, A36, H⟩ := zbind H
          by_cases c37 : 3 + t496.size ≤ 9223372036854775807
          ·rw [if_pos c37] at H
           have c37b0 := eq_true c37; have c37b1 := dT c37
           try have c37b2 : (9223372036854775807 < 3 + t496.size) = False := eq_false (Nat.not_lt.2 c37)
           obtain ⟨zs38, hzs38⟩ : ∃ j_ : ByteArray, ((⟨#[111, 107, 10]⟩ : ByteArray) ++ t496) = j_ := ⟨_, rfl⟩
           replace H : (if zs38.size + 1 ≤ 9223372036854775807 then ((laws_endLine.f kj5 (t479.length : Int)).bind fun t497 => (if (zs38 ++ (⟨#[10]⟩ : ByteArray)).size + t497.size ≤ 9223372036854775807 then (some (t495.toList == ((zs38 ++ (⟨#[10]⟩ : ByteArray)) ++ t497).toList)) else (none))) else (none)) = some r := by first | (rw [hzs38] at H; exact H) | (simp only [hzs38] at H ⊢; exact H) | exact H
           (try rw [hzs38] at A17)
           (try rw [hzs38] at A20)
           (try rw [hzs38] at A25)
           (try rw [hzs38] at A30)
           (try rw [hzs38] at A35)
           (try rw [hzs38] at A36)
           by_cases c39 : zs38.size + 1 ≤ 9223372036854775807
           ·rw [if_pos c39] at H
            have c39b0 := eq_true c39; have c39b1 := dT c39
            try have c39b2 : (9223372036854775807 < zs38.size + 1) = False := eq_false (Nat.not_lt.2 c39)
            obtain ⟨zs40, hzs40⟩ : ∃ j_ : ByteArray, (zs38 ++ (⟨#[10]⟩ : ByteArray)) = j_ := ⟨_, rfl⟩
            replace H : ((laws_endLine.f kj5 (t479.length : Int)).bind fun t497 => (if zs40.size + t497.size ≤ 9223372036854775807 then (some (t495.toList == (zs40 ++ t497).toList)) else (none))) = some r := by first | (rw [hzs40] at H; exact H) | (simp only [hzs40] at H ⊢; exact H) | exact H
            (try rw [hzs40] at A17)
            (try rw [hzs40] at A20)
            (try rw [hzs40] at A25)
            (try rw [hzs40] at A30)
            (try rw [hzs40] at A35)
            (try rw [hzs40] at A36)
            obtain ⟨t497, A41, H⟩ := zbind H
            by_cases c42 : zs40.size + t497.size ≤ 9223372036854775807
            ·rw [if_pos c42] at H
             have c42b0 := eq_true c42; have c42b1 := dT c42
             try have c42b2 : (9223372036854775807 < zs40.size + t497.size) = False := eq_false (Nat.not_lt.2 c42)
             obtain ⟨zs43, hzs43⟩ : ∃ j_ : ByteArray, (zs40 ++ t497) = j_ := ⟨_, rfl⟩
             replace H : (some (t495.toList == zs43.toList)) = some r := by first | (rw [hzs43] at H; exact H) | (simp only [hzs43] at H ⊢; exact H) | exact H
             (try rw [hzs43] at A17)
             (try rw [hzs43] at A20)
             (try rw [hzs43] at A25)
             (try rw [hzs43] at A30)
             (try rw [hzs43] at A35)
             (try rw [hzs43] at A36)
             (try rw [hzs43] at A41)
             obtain rfl := sI H
             try go_wp2
             replace HO_489000 := A0_ (Kd.Q_drew HO_489000.out)
             replace HO_489001 := A0_ (rD HO_489001.out)
             replace BK488 := A0_ (kD BK488.out)
             replace HB := A0_ (bD HB.out)
             refine start_ (n := 27) (S := fun w' => w'.cell? ⟨gb488, 0, none⟩ = some (.slice Ao9 t479.length co9) ∧ w'.cell? ⟨gb488, 1, none⟩ = some (.slice Ao11 t482.length co11)) (ds := []) #[false, false, false, false, false, false, false, false, false, false, false, false, false, false, false, false, false, false, false, false, false, false, false, false, false, false, false] (by kernel_rfl) rfl rfl ⟨(kC BK488.out 0).trans rfl, (kC BK488.out 1).trans rfl⟩ (fun hHeld => ?_); refine with_tabW laws_FnExecuteValue.tab8 laws_FnExecuteValue.bits8 (fun HT_ HW_ => ?_)
             generalize wc.drew = w44 at HO_489000 HO_489001 BK488 HB hHeld ⊢
             refine zP 3 (some 42) #[false,false,false,true,false,false,false,false,false,false,false,false,false,false,false,false,false,false,false,false,false,false,false,false,false,false,false] ?_
             refine zP 7 (some 46) #[false,false,false,true,false,false,false,true,false,false,false,false,false,false,false,false,false,false,false,false,false,false,false,false,false,false,false] ?_
             refine zP 11 (some 50) #[false,false,false,true,false,false,false,true,false,false,false,true,false,false,false,false,false,false,false,false,false,false,false,false,false,false,false] ?_
             refine zP 16 (some 55) #[false,false,false,true,false,false,false,true,false,false,false,true,false,false,false,false,true,false,false,false,false,false,false,false,false,false,false] ?_
             refine zP 20 (some 59) #[false,false,false,true,false,false,false,true,false,false,false,true,false,false,false,false,true,false,false,false,true,false,false,false,false,false,false] ?_
             refine take_ (i := 0) (N := some 39) (v := ?_) (a' := ?_) #[true, false, false, true, false, false, false, true, false, false, false, true, false, false, false, false, true, false, false, false, true, false, false, false, false, false, false] rfl rfl (take_ofW HT_.out HW_.out (by kernel_rfl)) (fun _ _ _ h => h) (Or.inl ⟨by rfl, ?_⟩) hHeld ?_ ?_
             rotate_left
             ·rintro w' ⟨s0, s1⟩
              go_simp
              with_reducible rfl
             rotate_left
             ·simp only [Act.put, List.setIfInBounds_toArray, List.set_cons_zero, List.set_cons_succ, i64_w, i32_w]
              rfl
             refine take_ (i := 21) (N := some 60) (v := ?_) (a' := ?_) #[true, false, false, true, false, false, false, true, false, false, false, true, false, false, false, false, true, false, false, false, true, true, false, false, false, false, false] rfl rfl (take_ofW HT_.out HW_.out (by kernel_rfl)) (fun _ _ _ h => h) (Or.inl ⟨by rfl, ?_⟩) hHeld ?_ ?_
             rotate_left
             ·rintro w' ⟨s0, s1⟩
              go_simp
              with_reducible rfl
             rotate_left
             ·simp only [Act.put, List.setIfInBounds_toArray, List.set_cons_zero, List.set_cons_succ, i64_w, i32_w]
              rfl
             refine zP 22 (some 61) #[true,false,false,true,false,false,false,true,false,false,false,true,false,false,false,false,true,false,false,false,true,true,true,false,false,false,false] ?_
             refine one_ (i := 1) (N := some 40) #[true, true, false, true, false, false, false, true, false, false, false, true, false, false, false, false, true, false, false, false, true, true, true, false, false, false, false] rfl rfl (one_of HT_.out (by kernel_rfl)) (by decide) (fun K hK => ?_)
             refine goes_ Tryz.func11 (by kernel_rfl) rfl #[.agg #[.slice Ao9 t479.length co9, .slice Ao11 t482.length co11]] (by rfl) rfl rfl (by (try simp only [List.map_toArray, List.map_cons, List.map_nil]); first | done | rfl | (simp only [List.length_drop, List.length_take]; rfl)) ?_
             with_reducible refine (laws_mapLine.calls kj5 _ _ t479 _ _ t482 t491 _ ?side1 ?side2 ?side3 ?side4 A17.out).mono ?_
             (case side1 => exact zDQ HO_489000)
             (case side2 => exact (Kd.Q_reads' HO_489000.out).2.1)
             (case side3 => exact zD HO_489001)
             (case side4 => exact (rR HO_489001.out).2.1)
             rintro e w45 ⟨rfl, hb⟩
             refine ⟨_, rfl, ?_⟩
             replace HO_489000 := A0_ (Kd.Q_below (zQ_ HO_489000) hb)
             replace HO_489001 := zR HO_489001 hb; replace BK488 := zK BK488 hb; replace HB := zB HB hb; (try clear hb); (try clear hb2); (try clear hk); (try clear hi)
             refine hK.out _ _ ⟨(kC BK488.out 0).trans rfl, (kC BK488.out 1).trans rfl⟩ (fun hHeld => ?_)
             clear hK K
             refine norm_ (a' := ?_) ?_ ?_
             rotate_left
             ·show Act.put _ (some 40) _ = _
              simp only [Act.put, List.setIfInBounds_toArray, List.set_cons_zero, List.set_cons_succ, i64_w, i32_w]
              rfl
             refine zP 2 (some 41) #[true,true,true,true,false,false,false,true,false,false,false,true,false,false,false,false,true,false,false,false,true,true,true,false,false,false,false] ?_
             refine one_ (i := 4) (N := some 43) #[true, true, true, true, true, false, false, true, false, false, false, true, false, false, false, false, true, false, false, false, true, true, true, false, false, false, false] rfl rfl (one_of HT_.out (by kernel_rfl)) (by decide) (fun K hK => ?_)
             refine goes_ Tryz.func17 (by kernel_rfl) rfl #[.int .i64 t485] (by rfl) rfl rfl (by (try simp only [List.map_toArray, List.map_cons, List.map_nil]); first | done | rfl | (simp only [List.length_drop, List.length_take]; rfl)) ?_
             with_reducible refine (laws_digits.calls kj5 t485 t492 _ A20.out).mono ?_
             rintro e w46 ⟨rfl, hb⟩
             refine ⟨_, rfl, ?_⟩
             replace HO_489000 := A0_ (Kd.Q_below (zQ_ HO_489000) hb)
             replace HO_489001 := zR HO_489001 hb; replace BK488 := zK BK488 hb; replace HB := zB HB hb; (try clear hb); (try clear hb2); (try clear hk); (try clear hi)
             refine hK.out _ _ ⟨(kC BK488.out 0).trans rfl, (kC BK488.out 1).trans rfl⟩ (fun hHeld => ?_)
             clear hK K
             refine norm_ (a' := ?_) ?_ ?_
             rotate_left
             ·show Act.put _ (some 43) _ = _
              simp only [Act.put, List.setIfInBounds_toArray, List.set_cons_zero, List.set_cons_succ, i64_w, i32_w]
              rfl
             refine zP 5 (some 44) #[true,true,true,true,true,true,false,true,false,false,false,true,false,false,false,false,true,false,false,false,true,true,true,false,false,false,false] ?_
             refine zP 6 (some 45) #[true,true,true,true,true,true,true,true,false,false,false,true,false,false,false,false,true,false,false,false,true,true,true,false,false,false,false] ?_
             refine one_ (i := 8) (N := some 47) #[true, true, true, true, true, true, true, true, true, false, false, true, false, false, false, false, true, false, false, false, true, true, true, false, false, false, false] rfl rfl (one_of HT_.out (by kernel_rfl)) (by decide) (fun K hK => ?_)
             refine goes_ Tryz.func17 (by kernel_rfl) rfl #[.int .i64 t486] (by rfl) rfl rfl (by (try simp only [List.map_toArray, List.map_cons, List.map_nil]); first | done | rfl | (simp only [List.length_drop, List.length_take]; rfl)) ?_
             with_reducible refine (laws_digits.calls kj5 t486 t493 _ A25.out).mono ?_
             rintro e w47 ⟨rfl, hb⟩
             refine ⟨_, rfl, ?_⟩
             replace HO_489000 := A0_ (Kd.Q_below (zQ_ HO_489000) hb)
             replace HO_489001 := zR HO_489001 hb; replace BK488 := zK BK488 hb; replace HB := zB HB hb; (try clear hb); (try clear hb2); (try clear hk); (try clear hi)
             refine hK.out _ _ ⟨(kC BK488.out 0).trans rfl, (kC BK488.out 1).trans rfl⟩ (fun hHeld => ?_)
             clear hK K
             refine norm_ (a' := ?_) ?_ ?_
             rotate_left
             ·show Act.put _ (some 47) _ = _
              simp only [Act.put, List.setIfInBounds_toArray, List.set_cons_zero, List.set_cons_succ, i64_w, i32_w]
              rfl
             refine zP 9 (some 48) #[true,true,true,true,true,true,true,true,true,true,false,true,false,false,false,false,true,false,false,false,true,true,true,false,false,false,false] ?_
             refine zP 10 (some 49) #[true,true,true,true,true,true,true,true,true,true,true,true,false,false,false,false,true,false,false,false,true,true,true,false,false,false,false] ?_
             refine one_ (i := 12) (N := some 51) #[true, true, true, true, true, true, true, true, true, true, true, true, true, false, false, false, true, false, false, false, true, true, true, false, false, false, false] rfl rfl (one_of HT_.out (by kernel_rfl)) (by decide) (fun K hK => ?_)
             refine goes_ Tryz.func17 (by kernel_rfl) rfl #[.int .i64 t487] (by rfl) rfl rfl (by (try simp only [List.map_toArray, List.map_cons, List.map_nil]); first | done | rfl | (simp only [List.length_drop, List.length_take]; rfl)) ?_
             with_reducible refine (laws_digits.calls kj5 t487 t494 _ A30.out).mono ?_
             rintro e w48 ⟨rfl, hb⟩
             refine ⟨_, rfl, ?_⟩
             replace HO_489000 := A0_ (Kd.Q_below (zQ_ HO_489000) hb)
             replace HO_489001 := zR HO_489001 hb; replace BK488 := zK BK488 hb; replace HB := zB HB hb; (try clear hb); (try clear hb2); (try clear hk); (try clear hi)
             refine hK.out _ _ ⟨(kC BK488.out 0).trans rfl, (kC BK488.out 1).trans rfl⟩ (fun hHeld => ?_)
             clear hK K
             refine norm_ (a' := ?_) ?_ ?_
             rotate_left
             ·show Act.put _ (some 51) _ = _
              simp only [Act.put, List.setIfInBounds_toArray, List.set_cons_zero, List.set_cons_succ, i64_w, i32_w]
              rfl
             refine zP 13 (some 52) #[true,true,true,true,true,true,true,true,true,true,true,true,true,true,false,false,true,false,false,false,true,true,true,false,false,false,false] ?_
             refine zP 14 (some 53) #[true,true,true,true,true,true,true,true,true,true,true,true,true,true,true,false,true,false,false,false,true,true,true,false,false,false,false] ?_
             refine one_ (i := 15) (N := some 54) #[true, true, true, true, true, true, true, true, true, true, true, true, true, true, true, true, true, false, false, false, true, true, true, false, false, false, false] rfl rfl (one_of HT_.out (by kernel_rfl)) (by decide) (fun K hK => ?_)
             refine goes_ Tryz.func10 (by kernel_rfl) rfl #[.string zs34] (by rfl) rfl rfl (by (try simp only [List.map_toArray, List.map_cons, List.map_nil]); first | done | rfl | (simp only [List.length_drop, List.length_take]; rfl)) ?_
             with_reducible refine (impl_Execute.calls kj5 zs34 t495 _ (XE.tab_keep HTAB.out (by repeat (first | (with_reducible first | exact HB.out | apply bA | apply bN | apply bD) | exact HB.out))) A35.out).mono ?_
             rintro e w49 ⟨rfl, hb⟩
             refine ⟨_, rfl, ?_⟩
             replace HO_489000 := A0_ (Kd.Q_below (zQ_ HO_489000) hb)
             replace HO_489001 := zR HO_489001 hb; replace BK488 := zK BK488 hb; replace HB := zB HB hb; (try clear hb); (try clear hb2); (try clear hk); (try clear hi)
             refine hK.out _ _ ⟨(kC BK488.out 0).trans rfl, (kC BK488.out 1).trans rfl⟩ (fun hHeld => ?_)
             clear hK K
             refine norm_ (a' := ?_) ?_ ?_
             rotate_left
             ·show Act.put _ (some 54) _ = _
              simp only [Act.put, List.setIfInBounds_toArray, List.set_cons_zero, List.set_cons_succ, i64_w, i32_w]
              rfl
             refine one_ (i := 17) (N := some 56) #[true, true, true, true, true, true, true, true, true, true, true, true, true, true, true, true, true, true, false, false, true, true, true, false, false, false, false] rfl rfl (one_of HT_.out (by kernel_rfl)) (by decide) (fun K hK => ?_)
             refine goes_ Tryz.func17 (by kernel_rfl) rfl #[.int .i64 t489] (by rfl) rfl rfl (by (try simp only [List.map_toArray, List.map_cons, List.map_nil]); first | done | rfl | (simp only [List.length_drop, List.length_take]; rfl)) ?_
             with_reducible refine (laws_digits.calls kj5 t489 t496 _ A36.out).mono ?_
             rintro e w50 ⟨rfl, hb⟩
             refine ⟨_, rfl, ?_⟩
             replace HO_489000 := A0_ (Kd.Q_below (zQ_ HO_489000) hb)
             replace HO_489001 := zR HO_489001 hb; replace BK488 := zK BK488 hb; replace HB := zB HB hb; (try clear hb); (try clear hb2); (try clear hk); (try clear hi)
             refine hK.out _ _ ⟨(kC BK488.out 0).trans rfl, (kC BK488.out 1).trans rfl⟩ (fun hHeld => ?_)
             clear hK K
             refine norm_ (a' := ?_) ?_ ?_
             rotate_left
             ·show Act.put _ (some 56) _ = _
              simp only [Act.put, List.setIfInBounds_toArray, List.set_cons_zero, List.set_cons_succ, i64_w, i32_w]
              rfl
             refine zP 18 (some 57) #[true,true,true,true,true,true,true,true,true,true,true,true,true,true,true,true,true,true,true,false,true,true,true,false,false,false,false] ?_
             refine zP 19 (some 58) #[true,true,true,true,true,true,true,true,true,true,true,true,true,true,true,true,true,true,true,true,true,true,true,false,false,false,false] ?_
             refine one_ (i := 23) (N := some 62) #[true, true, true, true, true, true, true, true, true, true, true, true, true, true, true, true, true, true, true, true, true, true, true, true, false, false, false] rfl rfl (one_of HT_.out (by kernel_rfl)) (by decide) (fun K hK => ?_)
             refine goes_ Tryz.func13 (by kernel_rfl) rfl #[.int .i64 (t479.length : Int)] (by rfl) rfl rfl (by (try simp only [List.map_toArray, List.map_cons, List.map_nil]); first | done | rfl | (simp only [List.length_drop, List.length_take]; rfl)) ?_
             with_reducible refine (laws_endLine.calls kj5 (t479.length : Int) t497 _ A41.out).mono ?_
             rintro e w51 ⟨rfl, hb⟩
             refine ⟨_, rfl, ?_⟩
             replace HO_489000 := A0_ (Kd.Q_below (zQ_ HO_489000) hb)
             replace HO_489001 := zR HO_489001 hb; replace BK488 := zK BK488 hb; replace HB := zB HB hb; (try clear hb); (try clear hb2); (try clear hk); (try clear hi)
             refine hK.out _ _ ⟨(kC BK488.out 0).trans rfl, (kC BK488.out 1).trans rfl⟩ (fun hHeld => ?_)
             clear hK K
             refine norm_ (a' := ?_) ?_ ?_
             rotate_left
             ·show Act.put _ (some 62) _ = _
              simp only [Act.put, List.setIfInBounds_toArray, List.set_cons_zero, List.set_cons_succ, i64_w, i32_w]
              rfl
             refine zP 24 (some 63) #[true,true,true,true,true,true,true,true,true,true,true,true,true,true,true,true,true,true,true,true,true,true,true,true,true,false,false] ?_
             refine zP 25 (some 64) #[true,true,true,true,true,true,true,true,true,true,true,true,true,true,true,true,true,true,true,true,true,true,true,true,true,true,false] ?_
             refine zP 26 (some 2) #[true,true,true,true,true,true,true,true,true,true,true,true,true,true,true,true,true,true,true,true,true,true,true,true,true,true,true] ?_
             refine done_ (done_of HT_.out (by kernel_rfl)) ?_
             try go_wp2
             go_ret
             exact ⟨by first | rfl | (simp [*] <;> rfl), zB_ HB⟩
            rw [if_neg c42] at H
            exact absurd H (by simp)
           rw [if_neg c39] at H
           exact absurd H (by simp)
          rw [if_neg c37] at H
          exact absurd H (by simp)
         rw [if_neg c33] at H
         exact absurd H (by simp)
        rw [if_neg c31] at H
        exact absurd H (by simp)
       rw [if_neg c28] at H
       exact absurd H (by simp)
      rw [if_neg c26] at H
      exact absurd H (by simp)
     rw [if_neg c23] at H
     exact absurd H (by simp)
    rw [if_neg c21] at H
    exact absurd H (by simp)
   rw [if_neg c18] at H
   exact absurd H (by simp)

/-- THE ONE PURE STATEMENT of laws_FnExecuteValue: yours. -/
def laws_FnExecuteValue.Pure : Prop := ∀ (l0 : List Int), l0.length ≤ maxLen → l0.length * 1 ≤ 140737488351232 → (∀ x ∈ l0, (Lit.int .u8 x).wf = true) → ∃ k, laws_FnExecuteValue.f k l0 = some true
theorem laws_FnExecuteValue.walk (P : laws_FnExecuteValue.Pure) (a0 : Option Addr) (len0 cap0 : Nat) (z0 : List Int) (w : World) (htab : XE.Tab w) (w0 : (a0 = none ∧ len0 = 0 ∧ cap0 = 0 ∧ z0 = []) ∨ ∃ x, a0 = some x ∧ len0 ≤ cap0 ∧ cap0 ≤ maxLen ∧ z0.length = cap0 ∧ (∀ i, i < z0.length → w.cell? (x.add i) = some (.int .u8 (z0.getD i 0))) ∧ ∀ n ∈ z0, (Lit.int .u8 n).wf = true) (y0 : len0 * 1 ≤ 140737488351232) :
  Calls Tryz.prog 4 #[.slice a0 len0 cap0] w fun e w' => e = .returned (.bool true) ∧ Below w.heap.size w w' := by
 obtain ⟨l0, rfl, hr0, hm0, hw0, hc0⟩ := ReadsInt.ofRowC w0; obtain ⟨k, h⟩ := P l0 hm0 y0 hw0
 refine (laws_FnExecuteValue.calls k _ _ l0 true w htab (Kd.C_of_reads (d := (0 : Int)) (h1 := fun _ => rfl) hr0) hc0 h).mono ?_
 rintro e w' ⟨rfl, hd⟩
 exact ⟨rfl, hd⟩

end Go.Proofs.YtjebcgbmlbemcaaGreatDoor.PFnExecuteValue
