-- Made by a program of this session (wip/tools) out of the loaded program; not trusted: Lean checks it.
import Derived.Test.YtikkokflcgcnbaaGreatDoorPFnExecuteCountsx0
import Derived.Test.YtikkokflcgcnbaaGreatDoorPFnExecuteCountsx3
import Derived.Test.YtikkokflcgcnbaaGreatDoorPFnExecuteCountsx5
import Derived.Test.YtikkokflcgcnbaaGreatDoorPFnExecuteCountsx6
import Derived.Test.YtikkokflcgcnbaaGreatDoorPFnExecuteCountsx10
import Derived.Test.YtikkokflcgcnbaaGreatDoorPFnExecuteCountsx11
-- packed
namespace Go.Proofs.YtikkokflcgcnbaaGreatDoor.PFnExecuteCounts
open Go.RowKit Go.Proofs.YtikkokflcgcnbaaGreatDoorW.PrintWords Go.Proofs.YtikkokflcgcnbaaGreatDoorW.PrintLast Go.Proofs.YtikkokflcgcnbaaGreatDoorW.PrintMore
attribute [local go_sem] max2_int min2_int max_two min_two max_three min_three max_four min_four   -- for this text's walks alone
set_option linter.unusedVariables false
set_option linter.unusedSimpArgs false

/-! ### laws_FnExecuteCounts: function 5 -/
def laws_FnExecuteCounts.j0 : Nat → List Int → Bool → List Int → Bool → Bool → List Int → List Int → Option (Bool)
  | 0, _, _, _, _, _, _, _ => none
  | k + 1, x4, x5, x6, x7, x36, x382000, x382001 => if x36 = true then (if (x5 == x7) = true then ((laws_sameInts.f k x4 x6).bind fun t391 => (some t391)) else (some false)) else (if 0 < (x4.length : Int) then ((laws_digits.f k (rd x4 0)).bind fun t393 => (if t393.size + 1 ≤ 9223372036854775807 then (if 1 < (x4.length : Int) then ((laws_digits.f k (rd x4 1)).bind fun t395 => (if (t393 ++ (⟨#[32]⟩ : ByteArray)).size + t395.size ≤ 9223372036854775807 then (if ((t393 ++ (⟨#[32]⟩ : ByteArray)) ++ t395).size + 1 ≤ 9223372036854775807 then (if 2 < (x4.length : Int) then ((laws_digits.f k (rd x4 2)).bind fun t397 => (if (((t393 ++ (⟨#[32]⟩ : ByteArray)) ++ t395) ++ (⟨#[32]⟩ : ByteArray)).size + t397.size ≤ 9223372036854775807 then (if ((((t393 ++ (⟨#[32]⟩ : ByteArray)) ++ t395) ++ (⟨#[32]⟩ : ByteArray)) ++ t397).size + 1 ≤ 9223372036854775807 then ((impl_MapGenus.f k x382000 x382001).bind fun t398 => ((laws_digits.f k t398).bind fun t399 => (if (((((t393 ++ (⟨#[32]⟩ : ByteArray)) ++ t395) ++ (⟨#[32]⟩ : ByteArray)) ++ t397) ++ (⟨#[32]⟩ : ByteArray)).size + t399.size ≤ 9223372036854775807 then (if ((((((t393 ++ (⟨#[32]⟩ : ByteArray)) ++ t395) ++ (⟨#[32]⟩ : ByteArray)) ++ t397) ++ (⟨#[32]⟩ : ByteArray)) ++ t399).size + 1 ≤ 9223372036854775807 then ((laws_mapLine.f k x382000 x382001).bind fun t400 => (if t400.size + 7 ≤ 9223372036854775807 then ((impl_Execute.f k (t400 ++ (⟨#[99, 111, 117, 110, 116, 115, 10]⟩ : ByteArray))).bind fun t401 => (if 3 + (((((((t393 ++ (⟨#[32]⟩ : ByteArray)) ++ t395) ++ (⟨#[32]⟩ : ByteArray)) ++ t397) ++ (⟨#[32]⟩ : ByteArray)) ++ t399) ++ (⟨#[10]⟩ : ByteArray)).size ≤ 9223372036854775807 then ((laws_endLine.f k (x382000.length : Int)).bind fun t402 => (if ((⟨#[111, 107, 10]⟩ : ByteArray) ++ (((((((t393 ++ (⟨#[32]⟩ : ByteArray)) ++ t395) ++ (⟨#[32]⟩ : ByteArray)) ++ t397) ++ (⟨#[32]⟩ : ByteArray)) ++ t399) ++ (⟨#[10]⟩ : ByteArray))).size + t402.size ≤ 9223372036854775807 then (some (t401.toList == (((⟨#[111, 107, 10]⟩ : ByteArray) ++ (((((((t393 ++ (⟨#[32]⟩ : ByteArray)) ++ t395) ++ (⟨#[32]⟩ : ByteArray)) ++ t397) ++ (⟨#[32]⟩ : ByteArray)) ++ t399) ++ (⟨#[10]⟩ : ByteArray))) ++ t402).toList)) else (none))) else (none))) else (none))) else (none)) else (none)))) else (none)) else (none))) else (none)) else (none)) else (none))) else (none)) else (none))) else (none))
def laws_FnExecuteCounts.f (k : Nat) (l0 : List Int) : Option (Bool) := if (l0.length : Int) > 1048576 then (some true) else ((spec_DrawMapCounts.f k l0).bind fun bt375 => ((impl_MapCounts.f k bt375.1 bt375.2).bind fun bt382 => ((spec_MapCounts.f k bt375.1 bt375.2).bind fun bt386 => (if (bt382.2 != bt386.2) = true then (laws_FnExecuteCounts.j0 k bt382.1 bt382.2 bt386.1 bt386.2 true bt375.1 bt375.2) else ((laws_sameInts.f k bt382.1 bt386.1).bind fun t390 => (if t390 = true then (laws_FnExecuteCounts.j0 k bt382.1 bt382.2 bt386.1 bt386.2 (!bt382.2) bt375.1 bt375.2) else (laws_FnExecuteCounts.j0 k bt382.1 bt382.2 bt386.1 bt386.2 true bt375.1 bt375.2)))))))
def laws_FnExecuteCounts.T8 : Bool × List (List Nat × List Nat) := (true, [([], []), ([0], [0]), ([1], [1]), ([2], [2]), ([3], [3]), ([], []), ([5], [5]), ([6], [6]), ([7, 3], [7]), ([4, 8], [4, 8]), ([9], [9]), ([], []), ([11], [11]), ([12], [12]), ([13, 8], [13]), ([10, 14], [10, 14]), ([15], [15]), ([], []), ([17, 14], [17]), ([18, 18], [18]), ([16, 19], [16, 19]), ([20], [20]), ([21, 19, 0, 1, 2, 3, 4, 5, 6, 7, 8, 9, 10, 11, 12, 13, 14, 15, 16, 17, 18, 19, 20, 21], [21])])
def laws_FnExecuteCounts.B8 : List Nat := [0, 1, 3, 7, 15, 0, 32, 96, 239, 511, 1023, 0, 2048, 6144, 14831, 32767, 65535, 0, 162287, 424431, 1048575, 2097151, 4194303]
theorem laws_FnExecuteCounts.tab8 : rtab .any (opsOf Tryz.f5 8) = laws_FnExecuteCounts.T8 := by kernel_rfl
theorem laws_FnExecuteCounts.bits8 : waitsOk laws_FnExecuteCounts.T8.2 laws_FnExecuteCounts.B8 = true := by kernel_rfl
def laws_FnExecuteCounts.T9 : Bool × List (List Nat × List Nat) := (true, [([], []), ([0], [0]), ([1], [1]), ([2, 1], [2]), ([], []), ([4], [4]), ([], []), ([6], [6]), ([7], [7]), ([8, 3], [8]), ([5, 9], [5, 9]), ([3, 10], [3, 10]), ([11, 9, 0, 1, 2, 3, 4, 5, 6, 7, 8, 9, 10, 11], [11])])
def laws_FnExecuteCounts.B9 : List Nat := [0, 1, 3, 7, 0, 16, 0, 64, 192, 463, 1023, 2047, 4095]
theorem laws_FnExecuteCounts.tab9 : rtab .any (opsOf Tryz.f5 9) = laws_FnExecuteCounts.T9 := by kernel_rfl
theorem laws_FnExecuteCounts.bits9 : waitsOk laws_FnExecuteCounts.T9.2 laws_FnExecuteCounts.B9 = true := by kernel_rfl
set_option maxHeartbeats 8000000 in
set_option maxRecDepth 100000 in
theorem laws_FnExecuteCounts.calls (k : Nat) (A0 : Option Addr) (c0 : Nat) (l0 : List Int) (r : Bool) (w : World) (hr0 : Kd.C (Kd.int .u8) w A0 l0.length l0) (hc0 : l0.length ≤ c0) (h : laws_FnExecuteCounts.f k l0 = some r) :
    Calls Tryz.prog 5 #[.slice A0 l0.length c0] w fun e w' => e = .returned (.bool r) ∧ Below w.heap.size w w' := by
 have hu25 := Tryz.underlying25; have HR0 := A0_ hr0; have HC0 := A0_ hc0; clear hr0 hc0
 have HB := A0_ (Below.refl w.heap.size w)
 have H : (if (l0.length : Int) > 1048576 then (some true) else ((spec_DrawMapCounts.f k l0).bind fun bt375 => ((impl_MapCounts.f k bt375.1 bt375.2).bind fun bt382 => ((spec_MapCounts.f k bt375.1 bt375.2).bind fun bt386 => (if (bt382.2 != bt386.2) = true then (laws_FnExecuteCounts.j0 k bt382.1 bt382.2 bt386.1 bt386.2 true bt375.1 bt375.2) else ((laws_sameInts.f k bt382.1 bt386.1).bind fun t390 => (if t390 = true then (laws_FnExecuteCounts.j0 k bt382.1 bt382.2 bt386.1 bt386.2 (!bt382.2) bt375.1 bt375.2) else (laws_FnExecuteCounts.j0 k bt382.1 bt382.2 bt386.1 bt386.2 true bt375.1 bt375.2)))))))) = some r := h
 clear h
 by_cases c2 : (l0.length : Int) > 1048576
 ·rw [if_pos c2] at H
  have c2b0 : decide (1048576 < (l0.length : Int)) = true := dT c2
  have c2b1 : decide (1048576 < l0.length) = true := dT (by omega)
  clear c2; obtain rfl := sI H
  go_enter Tryz.func5, Tryz.ntmps5
  go_wp2
  go_ret
  exact ⟨by first | rfl | (simp [*] <;> rfl), zB_ HB⟩
 rw [if_neg c2] at H
 have c2b0 : decide (1048576 < (l0.length : Int)) = false := dF c2
 have c2b1 : decide (1048576 < l0.length) = false := dF (by omega)
 clear c2; obtain ⟨⟨t375, t378⟩, A3, H⟩ := zbind H; dsimp only at H; obtain ⟨⟨t382, t385⟩, A4, H⟩ := zbind H; dsimp only at H; obtain ⟨⟨t386, t389⟩, A5, H⟩ := zbind H; dsimp only at H; have HC6 := A0_ H; clear H
 go_enter Tryz.func5, Tryz.ntmps5
 go_upto_region 6 with (first | ((with_reducible refine gC (f := 18) rfl ?_); refine zJ (some 13) Tryz.func18 #[.slice A0 l0.length c0] ?_; (with_reducible refine (spec_DrawMapCounts.calls k _ _ l0 t375 t378 _ ?side1 ?side2 A3.out).mono ?_); (case side1 => repeat (first | exact HR0.out | (with_reducible refine cA ?_ _) | (with_reducible refine cN ?_ _) | (with_reducible refine cD ?_))); (case side2 => exact HC0.out); rintro e w7 ⟨v376, v379, rfl, ho0, ho1, hb⟩; refine ⟨_, rfl, ?_⟩; have HO377 := A0_ (Kd.Q_lower ho0 (bZ (zB_ HB))); have HO380 := A0_ (rL ho1 (bZ (zB_ HB))); replace HB := zB HB hb; (try clear hb); (try clear ho0); (try clear ho1)) | ((with_reducible refine gD (N := 3) rfl ?_); refine zX (N := 3) (cs := #[.slice none 0 0, .slice none 0 0]) (t := 25) ?_; intro gb381 hg w8 hbox hb; replace HO377 := A0_ (Kd.Q_below (zQ_ HO377) hb); replace HO380 := zR HO380 hb; have BK381 := A0_ (hbox); have GW381 := zG hg HB; have GE381 := zG hg HB; replace HB := zB HB hb; clear hb hbox hg; obtain ⟨Ao9, co9, eo9, _⟩ := Kd.Q_slice HO377.out; subst eo9; have hcz10_0 := zc0 BK381; have hcz10_1 := zc1 BK381; have hfz10_0 := kF BK381.out 0; have hfz10_1 := kF BK381.out 1; obtain ⟨Ao11, co11, eo11⟩ := rS HO380.out; subst eo11) | ((with_reducible refine gC (f := 19) rfl ?_); refine zJ (some 16) Tryz.func19 #[.agg #[.slice Ao9 t375.length co9, .slice Ao11 t378.length co11]] ?_; (with_reducible refine (impl_MapCounts.calls k _ _ t375 _ _ t378 t382 t385 _ ?side1 ?side2 ?side3 ?side4 A4.out).mono ?_); (case side1 => refine (Kd.Q_reads' (e := 3) (base := w.heap.size) (ok := fun k_ => some k_ ≠ (.slice Ao11 t378.length co11 : Value).ownBlock) (n := t375.length) (c := co9) ?_).2.2; exact (by (with_reducible repeat (first | apply Kd.Q_alloc | apply Kd.Q_drewN | apply Kd.Q_drew)); exact (Kd.Q_mono (Kd.Q_far (p := ⟨gb381, 1, none⟩) (Kd.Q_far (p := ⟨gb381, 0, none⟩) (Kd.Q_types HO377.out BK381.out (by decide)) (fun _ hk => hk.2) (.slice Ao9 t375.length co9)) (fun _ hk => hk.2) (.slice Ao11 t378.length co11)) (fun _ h_ => h_.1)))); (case side2 => exact (Kd.Q_reads' HO377.out).2.1); (case side3 => refine (rR (e := 3) (base := w.heap.size) (ok := fun k_ => some k_ ≠ (.slice Ao9 t375.length co9 : Value).ownBlock) (n := t378.length) (c := co11) ?_).2.2; exact (zF HO380 BK381 (.slice Ao9 t375.length co9) (.slice Ao11 t378.length co11) 0 1)); (case side4 => exact (rR HO380.out).2.1); rintro e w12 ⟨v383, rfl, ho0, hb⟩; refine ⟨_, rfl, ?_⟩; have HO384 := A0_ (rL (Kd.R_new' (Kd.R_new' ho0 (Kd.Q_lt (by (with_reducible repeat (first | apply Kd.Q_alloc | apply Kd.Q_drewN | apply Kd.Q_drew)); exact (Kd.Q_mono (Kd.Q_far (p := ⟨gb381, 1, none⟩) (Kd.Q_far (p := ⟨gb381, 0, none⟩) (Kd.Q_types HO377.out BK381.out (by decide)) (fun _ hk => hk.2) (.slice Ao9 t375.length co9)) (fun _ hk => hk.2) (.slice Ao11 t378.length co11)) (fun _ h_ => h_.1))))) (rX (zF HO380 BK381 (.slice Ao9 t375.length co9) (.slice Ao11 t378.length co11) 0 1))) (bZ (zB_ HB))); replace HO377 := A0_ (Kd.Q_elder' (by (with_reducible repeat (first | apply Kd.Q_alloc | apply Kd.Q_drewN | apply Kd.Q_drew)); exact (Kd.Q_mono (Kd.Q_far (p := ⟨gb381, 1, none⟩) (Kd.Q_far (p := ⟨gb381, 0, none⟩) (Kd.Q_types HO377.out BK381.out (by decide)) (fun _ hk => hk.2) (.slice Ao9 t375.length co9)) (fun _ hk => hk.2) (.slice Ao11 t378.length co11)) (fun _ h_ => h_.1))) (Kd.R_base ho0) hb); replace HO380 := A0_ (Kd.R_elder' (zF HO380 BK381 (.slice Ao9 t375.length co9) (.slice Ao11 t378.length co11) 0 1) (Kd.R_base ho0) hb); replace BK381 := A0_ (kB (g := gb381) (o := .cells #[.slice Ao9 t375.length co9, .slice Ao11 t378.length co11] 25 (0, 0)) (by (with_reducible repeat (first | refine kN ?_ _ | refine kD ?_ | refine kA ?_ _)); refine blk_put (cs := #[.slice Ao9 t375.length co9, .slice none 0 0]) ?_ 1 _ rfl; (with_reducible repeat (first | refine kN ?_ _ | refine kD ?_ | refine kA ?_ _)); refine blk_put (cs := #[.slice none 0 0, .slice none 0 0]) ?_ 0 _ rfl; (with_reducible repeat (first | refine kN ?_ _ | refine kD ?_ | refine kA ?_ _)); exact BK381.out) hb); replace HB := zB HB hb; (try clear hb); (try clear ho0); have hcz13_0 := zc0 BK381; have hcz13_1 := zc1 BK381; have hfz13_0 := kF BK381.out 0; have hfz13_1 := kF BK381.out 1) | ((with_reducible refine gC (f := 20) rfl ?_); refine zJ (some 21) Tryz.func20 #[.agg #[.slice Ao9 t375.length co9, .slice Ao11 t378.length co11]] ?_; (with_reducible refine (spec_MapCounts.calls k _ _ t375 _ _ t378 t386 t389 _ ?side1 ?side2 ?side3 ?side4 A5.out).mono ?_); (case side1 => exact zDQ HO377); (case side2 => exact (Kd.Q_reads' HO377.out).2.1); (case side3 => exact zD HO380); (case side4 => exact (rR HO380.out).2.1); rintro e w14 ⟨v387, rfl, ho0, hb⟩; refine ⟨_, rfl, ?_⟩; have HO388 := A0_ (rL (Kd.R_new' (Kd.R_new' (Kd.R_new' ho0 (Kd.Q_lt (zQ_ HO377))) (rX (zR_ HO380))) (rX (zR_ HO384))) (bZ (zB_ HB))); replace HO377 := A0_ (Kd.Q_elder' (zQ_ HO377) (Kd.R_base ho0) hb); replace HO380 := A0_ (Kd.R_elder' (zR_ HO380) (Kd.R_base ho0) hb); replace HO384 := A0_ (Kd.R_elder' (zR_ HO384) (Kd.R_base ho0) hb); replace BK381 := zK BK381 hb; replace HB := zB HB hb; (try clear hb); (try clear ho0)))
 (try simp only [Act.put, List.setIfInBounds_toArray, List.set_cons_zero, List.set_cons_succ])
 go_cut [36] (fun v36 wc => ∃ (kq : Nat) (x36_5 : Bool), v36 = .bool x36_5 ∧ Aside0 (laws_FnExecuteCounts.j0 kq t382 t385 t386 t389 x36_5 t375 t378 = some r) ∧ Aside0 (kq ≤ k) ∧ Aside0 (Kd.R (Kd.int .i64) 3 wc w.heap.size (fun k_ => some k_ ≠ (v387 : Value).ownBlock ∧ some k_ ≠ ((.slice Ao9 t375.length co9) : Value).ownBlock ∧ some k_ ≠ ((.slice Ao11 t378.length co11) : Value).ownBlock) v383 t382) ∧ Aside0 (Kd.R (Kd.int .i64) 3 wc w.heap.size (fun k_ => some k_ ≠ (v383 : Value).ownBlock ∧ some k_ ≠ ((.slice Ao9 t375.length co9) : Value).ownBlock ∧ some k_ ≠ ((.slice Ao11 t378.length co11) : Value).ownBlock) v387 t386) ∧ Aside0 (Kd.Q (Kd.int .i64) 3 wc w.heap.size (fun k_ => some k_ ≠ (v383 : Value).ownBlock ∧ some k_ ≠ (v387 : Value).ownBlock ∧ some k_ ≠ ((.slice Ao11 t378.length co11) : Value).ownBlock) (.slice Ao9 t375.length co9) t375) ∧ Aside0 (Kd.R (Kd.int .i64) 3 wc w.heap.size (fun k_ => some k_ ≠ (v383 : Value).ownBlock ∧ some k_ ≠ (v387 : Value).ownBlock ∧ some k_ ≠ ((.slice Ao9 t375.length co9) : Value).ownBlock) (.slice Ao11 t378.length co11) t378) ∧ Aside0 (wc.heap[gb381]? = some (.cells #[(.slice Ao9 t375.length co9), (.slice Ao11 t378.length co11)] 25 (0, 0))) ∧ Aside0 (Below w.heap.size w wc))
 case first =>
  have H := HC6.out; clear HC6
  by_cases c15 : (t385 != t389) = true
  ·rw [if_pos c15] at H
   have c15b0 : (t385 != t389) = true := c15
   (try (have c15b1 : decide (t385 = t389) = false := by simpa using c15))
   (try (have c15b2 : (t385 == t389) = false := by simpa using c15))
   (try (have c15b3 : ¬ (t385 = t389) := by simpa using c15))
   clear c15
   (first | rw [c15b0] | (simp only [i64_w, i32_w]; rw [c15b0]) | skip)
   have H' := A0_ H; clear H
   go_wp2
   go_meet
   case rel => exact ⟨_, (true), zt, H', zo, ⟨zmR HO384 (fun _ hk => ⟨hk.2, ⟨hk.1.1.2, hk.1.2⟩⟩)⟩, ⟨zmR HO388 (fun _ hk => ⟨hk.2, ⟨hk.1.1.2, hk.1.2⟩⟩)⟩, ⟨zmQ HO377 (fun _ hk => ⟨hk.1.2, ⟨hk.2, hk.1.1⟩⟩)⟩, ⟨zmR HO380 (fun _ hk => ⟨hk.1.2, ⟨hk.2, hk.1.1⟩⟩)⟩, ⟨zK_ BK381⟩, ⟨zB_ HB⟩⟩
  rw [if_neg c15] at H
  have c15b0 : (t385 != t389) = false := by simpa using c15
  (try (have c15b1 : decide (t385 = t389) = true := by simpa using c15))
  (try (have c15b2 : (t385 == t389) = true := by simpa using c15))
  clear c15
  (first | rw [c15b0] | (simp only [i64_w, i32_w]; rw [c15b0]) | skip)
  obtain ⟨t390, A16, H⟩ := zbind H
  by_cases c17 : t390 = true
  ·subst c17
   rw [if_pos rfl] at H; have H' := A0_ H; clear H; obtain ⟨Ao18, co18, eo18⟩ := rS HO384.out; subst eo18; obtain ⟨Ao19, co19, eo19⟩ := rS HO388.out; subst eo19
   go_wp2_with (first | (go_at_call 21; (with_reducible refine (laws_sameInts.calls k _ _ t382 _ _ t386 true _ ?side1 ?side2 ?side3 ?side4 A16.out).mono ?_); (case side1 => exact zD HO384); (case side2 => exact (rR HO384.out).2.1); (case side3 => exact zD HO388); (case side4 => exact (rR HO388.out).2.1); rintro e w' ⟨rfl, ⟨nd, rfl⟩⟩))
   go_meet
   case rel => exact ⟨_, (!t385), zt, H', zo, ⟨zmR HO384 (fun _ hk => ⟨hk.2, ⟨hk.1.1.2, hk.1.2⟩⟩)⟩, ⟨zmR HO388 (fun _ hk => ⟨hk.2, ⟨hk.1.1.2, hk.1.2⟩⟩)⟩, ⟨zmQ HO377 (fun _ hk => ⟨hk.1.2, ⟨hk.2, hk.1.1⟩⟩)⟩, ⟨zmR HO380 (fun _ hk => ⟨hk.1.2, ⟨hk.2, hk.1.1⟩⟩)⟩, ⟨zK_ BK381⟩, ⟨zB_ HB⟩⟩
  replace c17 := Bool.eq_false_iff.mpr c17; subst c17
  rw [if_neg (show ¬ (false = true) by decide)] at H
  have H' := A0_ H; clear H; obtain ⟨Ao20, co20, eo20⟩ := rS HO384.out; subst eo20; obtain ⟨Ao21, co21, eo21⟩ := rS HO388.out; subst eo21
  go_wp2_with (first | (go_at_call 21; (with_reducible refine (laws_sameInts.calls k _ _ t382 _ _ t386 false _ ?side1 ?side2 ?side3 ?side4 A16.out).mono ?_); (case side1 => exact zD HO384); (case side2 => exact (rR HO384.out).2.1); (case side3 => exact zD HO388); (case side4 => exact (rR HO388.out).2.1); rintro e w' ⟨rfl, ⟨nd, rfl⟩⟩))
  go_meet
  case rel => exact ⟨_, (true), zt, H', zo, ⟨zmR HO384 (fun _ hk => ⟨hk.2, ⟨hk.1.1.2, hk.1.2⟩⟩)⟩, ⟨zmR HO388 (fun _ hk => ⟨hk.2, ⟨hk.1.1.2, hk.1.2⟩⟩)⟩, ⟨zmQ HO377 (fun _ hk => ⟨hk.1.2, ⟨hk.2, hk.1.1⟩⟩)⟩, ⟨zmR HO380 (fun _ hk => ⟨hk.1.2, ⟨hk.2, hk.1.1⟩⟩)⟩, ⟨zK_ BK381⟩, ⟨zB_ HB⟩⟩
 case rest =>
  clear HC6; (try clear c1); (try clear c2); (try clear c2b0); (try clear c2b1); (try clear p2); (try clear c5); (try clear c15); (try clear c15b0); (try clear c15b1); (try clear c15b2); (try clear c17); (try clear c18); (try clear c19); (try clear c20); (try clear hcz10_0); (try clear hcz10_1); (try clear hcz13_0); (try clear hcz13_1); (try clear hfz10_0); (try clear hfz10_1); (try clear hfz13_0); (try clear hfz13_1); obtain ⟨kq, x36_5, rfl, HA, HJ5, HO_4, HO_6, HO_382000, HO_382001, BK381, HB⟩ := hcut
  cases kq with
  | zero => exact absurd HA.out (by simp [laws_FnExecuteCounts.j0])
  | succ kj5 =>
   have H := HA.out; clear HA; simp only [laws_FnExecuteCounts.j0] at H
   by_cases c22 : x36_5 = true
   ·subst c22
    rw [if_pos rfl] at H
    by_cases c23 : (t385 == t389) = true
    ·rw [if_pos c23] at H
     have c23b0 : (t385 == t389) = true := c23
     (try (have c23b1 : decide (t385 = t389) = true := by simpa using c23))
     (try (have c23b2 : (t385 == t389) = true := by simpa using c23))
     clear c23; obtain ⟨t391, A24, H⟩ := zbind H; obtain rfl := sI H; obtain ⟨Ao25, co25, eo25⟩ := rS HO_4.out; subst eo25; obtain ⟨Ao26, co26, eo26⟩ := rS HO_6.out; subst eo26
     go_wp2_with (first | (go_at_call 21; (with_reducible refine (laws_sameInts.calls kj5 _ _ t382 _ _ t386 t391 _ ?side1 ?side2 ?side3 ?side4 A24.out).mono ?_); (case side1 => exact zD HO_4); (case side2 => exact (rR HO_4.out).2.1); (case side3 => exact zD HO_6); (case side4 => exact (rR HO_6.out).2.1); rintro e w' ⟨rfl, ⟨nd, rfl⟩⟩))
     go_ret
     exact ⟨by first | rfl | (simp [*] <;> rfl), zB_ HB⟩
    rw [if_neg c23] at H
    have c23b0 : (t385 == t389) = false := by simpa using c23
    (try (have c23b1 : decide (t385 = t389) = false := by simpa using c23))
    (try (have c23b2 : (t385 == t389) = false := by simpa using c23))
    (try (have c23b3 : ¬ (t385 = t389) := by simpa using c23))
    clear c23; obtain rfl := sI H
    go_wp2
    go_ret
    exact ⟨by first | rfl | (simp [*] <;> rfl), zB_ HB⟩
   replace c22 := Bool.eq_false_iff.mpr c22; subst c22
   rw [if_neg (show ¬ (false = true) by decide)] at H
   by_cases c27 : 0 < (t382.length : Int)
   ·rw [if_pos c27] at H
    have c27b0 := dT c27
    have c27b1 : decide (0 < t382.length) = true := dT (by omega)
    clear c27; obtain ⟨t393, A28, H⟩ := zbind H
    by_cases c29 : t393.size + 1 ≤ 9223372036854775807
    ·rw [if_pos c29] at H
     have c29b0 := eq_true c29; have c29b1 := dT c29
     try have c29b2 : (9223372036854775807 < t393.size + 1) = False := eq_false (Nat.not_lt.2 c29)
     obtain ⟨zs30, hzs30⟩ : ∃ j_ : ByteArray, (t393 ++ (⟨#[32]⟩ : ByteArray)) = j_ := ⟨_, rfl⟩
     replace H : (if 1 < (t382.length : Int) then ((laws_digits.f kj5 (rd t382 1)).bind fun t395 => (if zs30.size + t395.size ≤ 9223372036854775807 then (if (zs30 ++ t395).size + 1 ≤ 9223372036854775807 then (if 2 < (t382.length : Int) then ((laws_digits.f kj5 (rd t382 2)).bind fun t397 => (if ((zs30 ++ t395) ++ (⟨#[32]⟩ : ByteArray)).size + t397.size ≤ 9223372036854775807 then (if (((zs30 ++ t395) ++ (⟨#[32]⟩ : ByteArray)) ++ t397).size + 1 ≤ 9223372036854775807 then ((impl_MapGenus.f kj5 t375 t378).bind fun t398 => ((laws_digits.f kj5 t398).bind fun t399 => (if ((((zs30 ++ t395) ++ (⟨#[32]⟩ : ByteArray)) ++ t397) ++ (⟨#[32]⟩ : ByteArray)).size + t399.size ≤ 9223372036854775807 then (if (((((zs30 ++ t395) ++ (⟨#[32]⟩ : ByteArray)) ++ t397) ++ (⟨#[32]⟩ : ByteArray)) ++ t399).size + 1 ≤ 9223372036854775807 then ((laws_mapLine.f kj5 t375 t378).bind fun t400 => (if t400.size + 7 ≤ 9223372036854775807 then ((impl_Execute.f kj5 (t400 ++ (⟨#[99, 111, 117, 110, 116, 115, 10]⟩ : ByteArray))).bind fun t401 => (if 3 + ((((((zs30 ++ t395) ++ (⟨#[32]⟩ : ByteArray)) ++ t397) ++ (⟨#[32]⟩ : ByteArray)) ++ t399) ++ (⟨#[10]⟩ : ByteArray)).size ≤ 9223372036854775807 then ((laws_endLine.f kj5 (t375.length : Int)).bind fun t402 => (if ((⟨#[111, 107, 10]⟩ : ByteArray) ++ ((((((zs30 ++ t395) ++ (⟨#[32]⟩ : ByteArray)) ++ t397) ++ (⟨#[32]⟩ : ByteArray)) ++ t399) ++ (⟨#[10]⟩ : ByteArray))).size + t402.size ≤ 9223372036854775807 then (some (t401.toList == (((⟨#[111, 107, 10]⟩ : ByteArray) ++ ((((((zs30 ++ t395) ++ (⟨#[32]⟩ : ByteArray)) ++ t397) ++ (⟨#[32]⟩ : ByteArray)) ++ t399) ++ (⟨#[10]⟩ : ByteArray))) ++ t402).toList)) else (none))) else (none))) else (none))) else (none)) else (none)))) else (none)) else (none))) else (none)) else (none)) else (none))) else (none)) = some r := by first | (rw [hzs30] at H; exact H) | (simp only [hzs30] at H ⊢; exact H) | exact H
     (try rw [hzs30] at A28)
     by_cases c31 : 1 < (t382.length : Int)
     ·rw [if_pos c31] at H
      have c31b0 := dT c31
      have c31b1 : decide (1 < t382.length) = true := dT (by omega)
      clear c31; obtain ⟨t395, A32, H⟩ := zbind H
      by_cases c33 : zs30.size + t395.size ≤ 9223372036854775807
      ·rw [if_pos c33] at H
       have c33b0 := eq_true c33; have c33b1 := dT c33
       try have c33b2 : (9223372036854775807 < zs30.size + t395.size) = False := eq_false (Nat.not_lt.2 c33)
       obtain ⟨zs34, hzs34⟩ : ∃ j_ : ByteArray, (zs30 ++ t395) = j_ := ⟨_, rfl⟩
       replace H : (if zs34.size + 1 ≤ 9223372036854775807 then (if 2 < (t382.length : Int) then ((laws_digits.f kj5 (rd t382 2)).bind fun t397 => (if (zs34 ++ (⟨#[32]⟩ : ByteArray)).size + t397.size ≤ 9223372036854775807 then (if ((zs34 ++ (⟨#[32]⟩ : ByteArray)) ++ t397).size + 1 ≤ 9223372036854775807 then ((impl_MapGenus.f kj5 t375 t378).bind fun t398 => ((laws_digits.f kj5 t398).bind fun t399 => (if (((zs34 ++ (⟨#[32]⟩ : ByteArray)) ++ t397) ++ (⟨#[32]⟩ : ByteArray)).size + t399.size ≤ 9223372036854775807 then (if ((((zs34 ++ (⟨#[32]⟩ : ByteArray)) ++ t397) ++ (⟨#[32]⟩ : ByteArray)) ++ t399).size + 1 ≤ 9223372036854775807 then ((laws_mapLine.f kj5 t375 t378).bind fun t400 => (if t400.size + 7 ≤ 9223372036854775807 then ((impl_Execute.f kj5 (t400 ++ (⟨#[99, 111, 117, 110, 116, 115, 10]⟩ : ByteArray))).bind fun t401 => (if 3 + (((((zs34 ++ (⟨#[32]⟩ : ByteArray)) ++ t397) ++ (⟨#[32]⟩ : ByteArray)) ++ t399) ++ (⟨#[10]⟩ : ByteArray)).size ≤ 9223372036854775807 then ((laws_endLine.f kj5 (t375.length : Int)).bind fun t402 => (if ((⟨#[111, 107, 10]⟩ : ByteArray) ++ (((((zs34 ++ (⟨#[32]⟩ : ByteArray)) ++ t397) ++ (⟨#[32]⟩ : ByteArray)) ++ t399) ++ (⟨#[10]⟩ : ByteArray))).size + t402.size ≤ 9223372036854775807 then (some (t401.toList == (((⟨#[111, 107, 10]⟩ : ByteArray) ++ (((((zs34 ++ (⟨#[32]⟩ : ByteArray)) ++ t397) ++ (⟨#[32]⟩ : ByteArray)) ++ t399) ++ (⟨#[10]⟩ : ByteArray))) ++ t402).toList)) else (none))) else (none))) else (none))) else (none)) else (none)))) else (none)) else (none))) else (none)) else (none)) = some r := by first | (rw [hzs34] at H; exact H) | (simp only [hzs34] at H ⊢; exact H) | exact H
       (try rw [hzs34] at A28)
       (try rw [hzs34] at A32)
       by_cases c35 : zs34.size + 1 ≤ 9223372036854775807
       ·rw [if_pos c35] at H
        have c35b0 := eq_true c35; have c35b1 := dT c35
        try have c35b2 : (9223372036854775807 < zs34.size + 1) = False := eq_false (Nat.not_lt.2 c35)
        obtain ⟨zs36, hzs36⟩ : ∃ j_ : ByteArray, (zs34 ++ (⟨#[32]⟩ : ByteArray)) = j_ := ⟨_, rfl⟩
        replace H : (if 2 < (t382.length : Int) then ((laws_digits.f kj5 (rd t382 2)).bind fun t397 => (if zs36.size + t397.size ≤ 9223372036854775807 then (if (zs36 ++ t397).size + 1 ≤ 9223372036854775807 then ((impl_MapGenus.f kj5 t375 t378).bind fun t398 => ((laws_digits.f kj5 t398).bind fun t399 => (if ((zs36 ++ t397) ++ (⟨#[32]⟩ : ByteArray)).size + t399.size ≤ 9223372036854775807 then (if (((zs36 ++ t397) ++ (⟨#[32]⟩ : ByteArray)) ++ t399).size + 1 ≤ 9223372036854775807 then ((laws_mapLine.f kj5 t375 t378).bind fun t400 => (if t400.size + 7 ≤ 9223372036854775807 then ((impl_Execute.f kj5 (t400 ++ (⟨#[99, 111, 117, 110, 116, 115, 10]⟩ : ByteArray))).bind fun t401 => (if 3 + ((((zs36 ++ t397) ++ (⟨#[32]⟩ : ByteArray)) ++ t399) ++ (⟨#[10]⟩ : ByteArray)).size ≤ 9223372036854775807 then ((laws_endLine.f kj5 (t375.length : Int)).bind fun t402 => (if ((⟨#[111, 107, 10]⟩ : ByteArray) ++ ((((zs36 ++ t397) ++ (⟨#[32]⟩ : ByteArray)) ++ t399) ++ (⟨#[10]⟩ : ByteArray))).size + t402.size ≤ 9223372036854775807 then (some (t401.toList == (((⟨#[111, 107, 10]⟩ : ByteArray) ++ ((((zs36 ++ t397) ++ (⟨#[32]⟩ : ByteArray)) ++ t399) ++ (⟨#[10]⟩ : ByteArray))) ++ t402).toList)) else (none))) else (none))) else (none))) else (none)) else (none)))) else (none)) else (none))) else (none)) = some r := by first | (rw [hzs36] at H; exact H) | (simp only [hzs36] at H ⊢; exact H) | exact H
        (try rw [hzs36] at A28)
        (try rw [hzs36] at A32)
        by_cases c37 : 2 < (t382.length : Int)
        ·rw [if_pos c37] at H
         have c37b0 := dT c37
         have c37b1 : decide (2 < t382.length) = true := dT (by omega)
         clear c37; obtain ⟨t397, A38, H⟩ := zbind H
         by_cases c39 : zs36.size + t397.size ≤ 9223372036854775807
         ·rw [if_pos c39] at H
          have c39b0 := eq_true c39; have c39b1 := dT c39
          try have c39b2 : (9223372036854775807 < zs36.size + t397.size) = False := eq_false (Nat.not_lt.2 c39)
          obtain ⟨zs40, hzs40⟩ : ∃ j_ : ByteArray, (zs36 ++ t397) = j_ := ⟨_, rfl⟩
          replace H : (if zs40.size + 1 ≤ 9223372036854775807 then ((impl_MapGenus.f kj5 t375 t378).bind fun t398 => ((laws_digits.f kj5 t398).bind fun t399 => (if (zs40 ++ (⟨#[32]⟩ : ByteArray)).size + t399.size ≤ 9223372036854775807 then (if ((zs40 ++ (⟨#[32]⟩ : ByteArray)) ++ t399).size + 1 ≤ 9223372036854775807 then ((laws_mapLine.f kj5 t375 t378).bind fun t400 => (if t400.size + 7 ≤ 9223372036854775807 then ((impl_Execute.f kj5 (t400 ++ (⟨#[99, 111, 117, 110, 116, 115, 10]⟩ : ByteArray))).bind fun t401 => (if 3 + (((zs40 ++ (⟨#[32]⟩ : ByteArray)) ++ t399) ++ (⟨#[10]⟩ : ByteArray)).size ≤ 9223372036854775807 then ((laws_endLine.f kj5 (t375.length : Int)).bind fun t402 => (if ((⟨#[111, 107, 10]⟩ : ByteArray) ++ (((zs40 ++ (⟨#[32]⟩ : ByteArray)) ++ t399) ++ (⟨#[10]⟩ : ByteArray))).size + t402.size ≤ 9223372036854775807 then (some (t401.toList == (((⟨#[111, 107, 10]⟩ : ByteArray) ++ (((zs40 ++ (⟨#[32]⟩ : ByteArray)) ++ t399) ++ (⟨#[10]⟩ : ByteArray))) ++ t402).toList)) else (none))) else (none))) else (none))) else (none)) else (none)))) else (none)) = some r := by first | (rw [hzs40] at H; exact H) | (simp only [hzs40] at H ⊢; exact H) | exact H
          (try rw [hzs40] at A28)
          (try rw [hzs40] at A32)
          (try rw [hzs40] at A38)
          by_cases c41 : zs40.size + 1 ≤ 9223372036854775807
          ·rw [if_pos c41] at H
           have c41b0 := eq_true c41; have c41b1 := dT c41
           try have c41b2 : (9223372036854775807 < zs40.size + 1) = False := eq_false (Nat.not_lt.2 c41)
           obtain ⟨zs42, hzs42⟩ : ∃ j_ : ByteArray, (zs40 ++ (⟨#[32]⟩ : ByteArray)) = j_ := ⟨_, rfl⟩
           replace H : ((impl_MapGenus.f kj5 t375 t378).bind fun t398 => ((laws_digits.f kj5 t398).bind fun t399 => (if zs42.size + t399.size ≤ 9223372036854775807 then (if (zs42 ++ t399).size + 1 ≤ 9223372036854775807 then ((laws_mapLine.f kj5 t375 t378).bind fun t400 => (if t400.size + 7 ≤ 9223372036854775807 then ((impl_Execute.f kj5 (t400 ++ (⟨#[99, 111, 117, 110, 116, 115, 10]⟩ : ByteArray))).bind fun t401 => (if 3 + ((zs42 ++ t399) ++ (⟨#[10]⟩ : ByteArray)).size ≤ 9223372036854775807 then ((laws_endLine.f kj5 (t375.length : Int)).bind fun t402 => (if ((⟨#[111, 107, 10]⟩ : ByteArray) ++ ((zs42 ++ t399) ++ (⟨#[10]⟩ : ByteArray))).size + t402.size ≤ 9223372036854775807 then (some (t401.toList == (((⟨#[111, 107, 10]⟩ : ByteArray) ++ ((zs42 ++ t399) ++ (⟨#[10]⟩ : ByteArray))) ++ t402).toList)) else (none))) else (none))) else (none))) else (none)) else (none)))) = some r := by first | (rw [hzs42] at H; exact H) | (simp only [hzs42] at H ⊢; exact H) | exact H
           (try rw [hzs42] at A28)
           (try rw [hzs42] at A32)
           (try rw [hzs42] at A38)
           obtain ⟨t398, A43, H⟩ := zbind H; obtain ⟨t399, A44, H⟩ := zbind H
           by_cases c45 : zs42.size + t399.size ≤ 9223372036854775807
           ·rw [if_pos c45] at H
            have c45b0 := eq_true c45; have c45b1 := dT c45
            try have c45b2 : (9223372036854775807 < zs42.size + t399.size) = False := eq_false (Nat.not_lt.2 c45)
            obtain ⟨zs46, hzs46⟩ : ∃ j_ : ByteArray, (zs42 ++ t399) = j_ := ⟨_, rfl⟩
            replace H : (if zs46.size + 1 ≤ 9223372036854775807 then ((laws_mapLine.f kj5 t375 t378).bind fun t400 => (if t400.size + 7 ≤ 9223372036854775807 then ((impl_Execute.f kj5 (t400 ++ (⟨#[99, 111, 117, 110, 116, 115, 10]⟩ : ByteArray))).bind fun t401 => (if 3 + (zs46 ++ (⟨#[10]⟩ : ByteArray)).size ≤ 9223372036854775807 then ((laws_endLine.f kj5 (t375.length : Int)).bind fun t402 => (if ((⟨#[111, 107, 10]⟩ : ByteArray) ++ (zs46 ++ (⟨#[10]⟩ : ByteArray))).size + t402.size ≤ 9223372036854775807 then (some (t401.toList == (((⟨#[111, 107, 10]⟩ : ByteArray) ++ (zs46 ++ (⟨#[10]⟩ : ByteArray))) ++ t402).toList)) else (none))) else (none))) else (none))) else (none)) = some r := by first | (rw [hzs46] at H; exact H) | (simp only [hzs46] at H ⊢; exact H) | exact H
            (try rw [hzs46] at A28)
            (try rw [hzs46] at A32)
            (try rw [hzs46] at A38)
            (try rw [hzs46] at A43)
            (try rw [hzs46] at A44)
            by_cases c47 : zs46.size + 1 ≤ 9223372036854775807
            ·rw [if_pos c47] at H
             have c47b0 := eq_true c47; have c47b1 := dT c47
             try have c47b2 : (9223372036854775807 < zs46.size + 1) = False := eq_false (Nat.not_lt.2 c47)
             obtain ⟨zs48, hzs48⟩ : ∃ j_ : ByteArray, (zs46 ++ (⟨#[10]⟩ : ByteArray)) = j_ := ⟨_, rfl⟩
             replace H : ((laws_mapLine.f kj5 t375 t378).bind fun t400 => (if t400.size + 7 ≤ 9223372036854775807 then ((impl_Execute.f kj5 (t400 ++ (⟨#[99, 111, 117, 110, 116, 115, 10]⟩ : ByteArray))).bind fun t401 => (if 3 + zs48.size ≤ 9223372036854775807 then ((laws_endLine.f kj5 (t375.length : Int)).bind fun t402 => (if ((⟨#[111, 107, 10]⟩ : ByteArray) ++ zs48).size + t402.size ≤ 9223372036854775807 then (some (t401.toList == (((⟨#[111, 107, 10]⟩ : ByteArray) ++ zs48) ++ t402).toList)) else (none))) else (none))) else (none))) = some r := by first | (rw [hzs48] at H; exact H) | (simp only [hzs48] at H ⊢; exact H) | exact H
             (try rw [hzs48] at A28)
             (try rw [hzs48] at A32)
             (try rw [hzs48] at A38)
             (try rw [hzs48] at A43)
             (try rw [hzs48] at A44)
             obtain ⟨t400, A49, H⟩ := zbind H
             by_cases c50 : t400.size + 7 ≤ 9223372036854775807
             ·rw [if_pos c50] at H
              have c50b0 := eq_true c50; have c50b1 := dT c50
              try have c50b2 : (9223372036854775807 < t400.size + 7) = False := eq_false (Nat.not_lt.2 c50)
              obtain ⟨zs51, hzs51⟩ : ∃ j_ : ByteArray, (t400 ++ (⟨#[99, 111, 117, 110, 116, 115, 10]⟩ : ByteArray)) = j_ := ⟨_, rfl⟩
              replace H : ((impl_Execute.f kj5 zs51).bind fun t401 => (if 3 + zs48.size ≤ 9223372036854775807 then ((laws_endLine.f kj5 (t375.length : Int)).bind fun t402 => (if ((⟨#[111, 107, 10]⟩ : ByteArray) ++ zs48).size + t402.size ≤ 9223372036854775807 then (some (t401.toList == (((⟨#[111, 107, 10]⟩ : ByteArray) ++ zs48) ++ t402).toList)) else (none))) else (none))) = some r := by first | (rw [hzs51] at H; exact H) | (simp only [hzs51] at H ⊢; exact H) | exact H
              (try rw [hzs51] at A28)
              (try rw [hzs51] at A32)
              (try rw [hzs51] at A38)
              (try rw [hzs51] at A43)
              (try rw [hzs51] at A44)
              (try rw [hzs51] at A49)
              obtain ⟨t401, A52, H⟩ := zbind H
              by_cases c53 : 3 + zs48.size ≤ 9223372036854775807
              ·rw [if_pos c53] at H
               have c53b0 := eq_true c53; have c53b1 := dT c53
               try have c53b2 : (9223372036854775807 < 3 + zs48.size) = False := eq_false (Nat.not_lt.2 c53)
               obtain ⟨zs54, hzs54⟩ : ∃ j_ : ByteArray, ((⟨#[111, 107, 10]⟩ : ByteArray) ++ zs48) = j_ := ⟨_, rfl⟩
               replace H : ((laws_endLine.f kj5 (t375.length : Int)).bind fun t402 => (if zs54.size + t402.size ≤ 9223372036854775807 then (some (t401.toList == (zs54 ++ t402).toList)) else (none))) = some r := by first | (rw [hzs54] at H; exact H) | (simp only [hzs54] at H ⊢; exact H) | exact H
               (try rw [hzs54] at A28)
               (try rw [hzs54] at A32)
               (try rw [hzs54] at A38)
               (try rw [hzs54] at A43)
               (try rw [hzs54] at A44)
               (try rw [hzs54] at A49)
               (try rw [hzs54] at A52)
               obtain ⟨t402, A55, H⟩ := zbind H
               by_cases c56 : zs54.size + t402.size ≤ 9223372036854775807
               ·rw [if_pos c56] at H
                have c56b0 := eq_true c56; have c56b1 := dT c56
                try have c56b2 : (9223372036854775807 < zs54.size + t402.size) = False := eq_false (Nat.not_lt.2 c56)
                obtain ⟨zs57, hzs57⟩ : ∃ j_ : ByteArray, (zs54 ++ t402) = j_ := ⟨_, rfl⟩
                replace H : (some (t401.toList == zs57.toList)) = some r := by first | (rw [hzs57] at H; exact H) | (simp only [hzs57] at H ⊢; exact H) | exact H
                (try rw [hzs57] at A28)
                (try rw [hzs57] at A32)
                (try rw [hzs57] at A38)
                (try rw [hzs57] at A43)
                (try rw [hzs57] at A44)
                (try rw [hzs57] at A49)
                (try rw [hzs57] at A52)
                (try rw [hzs57] at A55)
                obtain rfl := sI H
                try go_wp2
                replace HO_4 := A0_ (rD HO_4.out)
                replace HO_6 := A0_ (rD HO_6.out)
                replace HO_382000 := A0_ (Kd.Q_drew HO_382000.out)
                replace HO_382001 := A0_ (rD HO_382001.out)
                replace BK381 := A0_ (kD BK381.out)
                replace HB := A0_ (bD HB.out)
                obtain ⟨Ao59, co59, eo59⟩ := rS HO_4.out
                (first | subst eo59 | (injection eo59 with f1_ f2_ f3_; have f4_ := f1_.symm; have f5_ := f3_.symm; clear f1_ f2_ f3_; subst f4_; subst f5_))
                have p392 : 0 ≤ (0 : Int) := (by omega)
                have q392 : 0 < (t382.length : Int) := zd
                obtain ⟨ad392, e392, hx392_0⟩ := tI (rR HO_4.out).2.2 0 p392 q392
                cases e392
                have qi392 : (0 < t382.length) = True := eq_true (by omega)
                (try rw [show ((0 : Int)).toNat = 0 from rfl] at hx392_0)
                (try rw [Addr.add_zero'] at hx392_0)
                replace p392 := eq_true p392; replace q392 := eq_true q392
                have p394 : 0 ≤ (1 : Int) := (by omega)
                have q394 : 1 < (t382.length : Int) := zd
                obtain ⟨ad394, e394, hx394_0⟩ := tI (rR HO_4.out).2.2 1 p394 q394
                obtain rfl : ad392 = ad394 := (by injection e394)
                (try simp only [show (1 : Int).toNat = 1 from rfl, Nat.reduceMul, Nat.reduceEqDiff, Go.Addr.add, ↓reduceIte] at hx394_0)
                have qi394 : (1 < t382.length) = True := eq_true (by omega)
                (try rw [show ((1 : Int)).toNat = 1 from rfl] at hx394_0)
                replace p394 := eq_true p394; replace q394 := eq_true q394
                have p396 : 0 ≤ (2 : Int) := (by omega)
                have q396 : 2 < (t382.length : Int) := zd
                obtain ⟨ad396, e396, hx396_0⟩ := tI (rR HO_4.out).2.2 2 p396 q396
                obtain rfl : ad392 = ad396 := (by injection e396)
                (try simp only [show (2 : Int).toNat = 2 from rfl, Nat.reduceMul, Nat.reduceEqDiff, Go.Addr.add, ↓reduceIte] at hx396_0)
                have qi396 : (2 < t382.length) = True := eq_true (by omega)
                (try rw [show ((2 : Int)).toNat = 2 from rfl] at hx396_0)
                replace p396 := eq_true p396; replace q396 := eq_true q396
                refine start_ (n := 23) (S := fun w' => w'.cell? ⟨gb381, 0, none⟩ = some (.slice Ao9 t375.length co9) ∧ w'.cell? ⟨gb381, 1, none⟩ = some (.slice Ao11 t378.length co11) ∧ w'.cell? ad392 = some (.int .i64 (rd t382 0)) ∧ w'.cell? ⟨ad392.block, ad392.off + 1, none⟩ = some (.int .i64 (rd t382 1)) ∧ w'.cell? ⟨ad392.block, ad392.off + 2, none⟩ = some (.int .i64 (rd t382 2))) (ds := []) #[false, false, false, false, false, false, false, false, false, false, false, false, false, false, false, false, false, false, false, false, false, false, false] (by kernel_rfl) rfl rfl ⟨(kC BK381.out 0).trans rfl, (kC BK381.out 1).trans rfl, hx392_0, hx394_0, hx396_0⟩ (fun hHeld => ?_); refine with_tabW laws_FnExecuteCounts.tab8 laws_FnExecuteCounts.bits8 (fun HT_ HW_ => ?_)
                generalize wc.drew = w58 at HO_4 HO_6 HO_382000 HO_382001 BK381 HB hx392_0 hx394_0 hx396_0 hHeld ⊢
                refine zP 0 (some 45) #[true,false,false,false,false,false,false,false,false,false,false,false,false,false,false,false,false,false,false,false,false,false,false] ?_
                refine zP 1 (some 46) #[true,true,false,false,false,false,false,false,false,false,false,false,false,false,false,false,false,false,false,false,false,false,false] ?_
                refine zP 5 (some 50) #[true,true,false,false,false,true,false,false,false,false,false,false,false,false,false,false,false,false,false,false,false,false,false] ?_
                refine zP 6 (some 51) #[true,true,false,false,false,true,true,false,false,false,false,false,false,false,false,false,false,false,false,false,false,false,false] ?_
                refine zP 11 (some 56) #[true,true,false,false,false,true,true,false,false,false,false,true,false,false,false,false,false,false,false,false,false,false,false] ?_
                refine zP 12 (some 57) #[true,true,false,false,false,true,true,false,false,false,false,true,true,false,false,false,false,false,false,false,false,false,false] ?_
                refine take_ (i := 2) (N := some 47) (v := ?_) (a' := ?_) #[true, true, true, false, false, true, true, false, false, false, false, true, true, false, false, false, false, false, false, false, false, false, false] rfl rfl (take_ofW HT_.out HW_.out (by kernel_rfl)) (fun _ _ _ h => h) (Or.inl ⟨by rfl, ?_⟩) hHeld ?_ ?_
                rotate_left
                ·rintro w' ⟨s0, s1, s2, s3, s4⟩
                 go_simp
                 with_reducible rfl
                rotate_left
                ·simp only [Act.put, List.setIfInBounds_toArray, List.set_cons_zero, List.set_cons_succ, i64_w, i32_w]
                 rfl
                refine take_ (i := 7) (N := some 52) (v := ?_) (a' := ?_) #[true, true, true, false, false, true, true, true, false, false, false, true, true, false, false, false, false, false, false, false, false, false, false] rfl rfl (take_ofW HT_.out HW_.out (by kernel_rfl)) (fun _ _ _ h => h) (Or.inl ⟨by rfl, ?_⟩) hHeld ?_ ?_
                rotate_left
                ·rintro w' ⟨s0, s1, s2, s3, s4⟩
                 go_simp
                 with_reducible rfl
                rotate_left
                ·simp only [Act.put, List.setIfInBounds_toArray, List.set_cons_zero, List.set_cons_succ, i64_w, i32_w]
                 rfl
                refine take_ (i := 13) (N := some 58) (v := ?_) (a' := ?_) #[true, true, true, false, false, true, true, true, false, false, false, true, true, true, false, false, false, false, false, false, false, false, false] rfl rfl (take_ofW HT_.out HW_.out (by kernel_rfl)) (fun _ _ _ h => h) (Or.inl ⟨by rfl, ?_⟩) hHeld ?_ ?_
                rotate_left
                ·rintro w' ⟨s0, s1, s2, s3, s4⟩
                 go_simp
                 with_reducible rfl
                rotate_left
                ·simp only [Act.put, List.setIfInBounds_toArray, List.set_cons_zero, List.set_cons_succ, i64_w, i32_w]
                 rfl
                refine take_ (i := 17) (N := some 62) (v := ?_) (a' := ?_) #[true, true, true, false, false, true, true, true, false, false, false, true, true, true, false, false, false, true, false, false, false, false, false] rfl rfl (take_ofW HT_.out HW_.out (by kernel_rfl)) (fun _ _ _ h => h) (Or.inl ⟨by rfl, ?_⟩) hHeld ?_ ?_
                rotate_left
                ·rintro w' ⟨s0, s1, s2, s3, s4⟩
                 go_simp
                 with_reducible rfl
                rotate_left
                ·simp only [Act.put, List.setIfInBounds_toArray, List.set_cons_zero, List.set_cons_succ, i64_w, i32_w]
                 rfl
                refine one_ (i := 3) (N := some 48) #[true, true, true, true, false, true, true, true, false, false, false, true, true, true, false, false, false, true, false, false, false, false, false] rfl rfl (one_of HT_.out (by kernel_rfl)) (by decide) (fun K hK => ?_)
                refine goes_ Tryz.func22 (by kernel_rfl) rfl #[.int .i64 (rd t382 0)] (by rfl) rfl rfl (by (try simp only [List.map_toArray, List.map_cons, List.map_nil]); first | done | rfl | (simp only [List.length_drop, List.length_take]; rfl)) ?_
                with_reducible refine (laws_digits.calls kj5 (rd t382 0) t393 _ A28.out).mono ?_
                rintro e w60 ⟨rfl, hb⟩
                have HS2_ := (hb.cell (wL _ _ (hHeld.2.2.1))).trans (hHeld.2.2.1)
                have HS3_ := (hb.cell (wL _ _ (hHeld.2.2.2.1))).trans (hHeld.2.2.2.1)
                have HS4_ := (hb.cell (wL _ _ (hHeld.2.2.2.2))).trans (hHeld.2.2.2.2)
                refine ⟨_, rfl, ?_⟩
                replace HO_4 := zR HO_4 hb; replace HO_6 := zR HO_6 hb
                replace HO_382000 := A0_ (Kd.Q_below (zQ_ HO_382000) hb)
                replace HO_382001 := zR HO_382001 hb; replace BK381 := zK BK381 hb; replace HB := zB HB hb; (try clear hb); (try clear hb2); (try clear hk); (try clear hi)
                refine hK.out _ _ ⟨(kC BK381.out 0).trans rfl, (kC BK381.out 1).trans rfl, HS2_, HS3_, HS4_⟩ (fun hHeld => ?_)
                clear hK K
                refine norm_ (a' := ?_) ?_ ?_
                rotate_left
                ·show Act.put _ (some 48) _ = _
                 simp only [Act.put, List.setIfInBounds_toArray, List.set_cons_zero, List.set_cons_succ, i64_w, i32_w]
                 rfl
                refine zP 4 (some 49) #[true,true,true,true,true,true,true,true,false,false,false,true,true,true,false,false,false,true,false,false,false,false,false] ?_
                refine one_ (i := 8) (N := some 53) #[true, true, true, true, true, true, true, true, true, false, false, true, true, true, false, false, false, true, false, false, false, false, false] rfl rfl (one_of HT_.out (by kernel_rfl)) (by decide) (fun K hK => ?_)
                refine goes_ Tryz.func22 (by kernel_rfl) rfl #[.int .i64 (rd t382 1)] (by rfl) rfl rfl (by (try simp only [List.map_toArray, List.map_cons, List.map_nil]); first | done | rfl | (simp only [List.length_drop, List.length_take]; rfl)) ?_
                with_reducible refine (laws_digits.calls kj5 (rd t382 1) t395 _ A32.out).mono ?_
                rintro e w61 ⟨rfl, hb⟩
                have HS2_ := (hb.cell (wL _ _ (hHeld.2.2.1))).trans (hHeld.2.2.1)
                have HS3_ := (hb.cell (wL _ _ (hHeld.2.2.2.1))).trans (hHeld.2.2.2.1)
                have HS4_ := (hb.cell (wL _ _ (hHeld.2.2.2.2))).trans (hHeld.2.2.2.2)
                refine ⟨_, rfl, ?_⟩
                replace HO_4 := zR HO_4 hb; replace HO_6 := zR HO_6 hb
                replace HO_382000 := A0_ (Kd.Q_below (zQ_ HO_382000) hb)
                replace HO_382001 := zR HO_382001 hb; replace BK381 := zK BK381 hb; replace HB := zB HB hb; (try clear hb); (try clear hb2); (try clear hk); (try clear hi)
                refine hK.out _ _ ⟨(kC BK381.out 0).trans rfl, (kC BK381.out 1).trans rfl, HS2_, HS3_, HS4_⟩ (fun hHeld => ?_)
                clear hK K
                refine norm_ (a' := ?_) ?_ ?_
                rotate_left
                ·show Act.put _ (some 53) _ = _
                 simp only [Act.put, List.setIfInBounds_toArray, List.set_cons_zero, List.set_cons_succ, i64_w, i32_w]
                 rfl
                refine zP 9 (some 54) #[true,true,true,true,true,true,true,true,true,true,false,true,true,true,false,false,false,true,false,false,false,false,false] ?_
                refine zP 10 (some 55) #[true,true,true,true,true,true,true,true,true,true,true,true,true,true,false,false,false,true,false,false,false,false,false] ?_
                refine one_ (i := 14) (N := some 59) #[true, true, true, true, true, true, true, true, true, true, true, true, true, true, true, false, false, true, false, false, false, false, false] rfl rfl (one_of HT_.out (by kernel_rfl)) (by decide) (fun K hK => ?_)
                refine goes_ Tryz.func22 (by kernel_rfl) rfl #[.int .i64 (rd t382 2)] (by rfl) rfl rfl (by (try simp only [List.map_toArray, List.map_cons, List.map_nil]); first | done | rfl | (simp only [List.length_drop, List.length_take]; rfl)) ?_
                with_reducible refine (laws_digits.calls kj5 (rd t382 2) t397 _ A38.out).mono ?_
                rintro e w62 ⟨rfl, hb⟩
                have HS2_ := (hb.cell (wL _ _ (hHeld.2.2.1))).trans (hHeld.2.2.1)
                have HS3_ := (hb.cell (wL _ _ (hHeld.2.2.2.1))).trans (hHeld.2.2.2.1)
                have HS4_ := (hb.cell (wL _ _ (hHeld.2.2.2.2))).trans (hHeld.2.2.2.2)
                refine ⟨_, rfl, ?_⟩
                replace HO_4 := zR HO_4 hb; replace HO_6 := zR HO_6 hb
                replace HO_382000 := A0_ (Kd.Q_below (zQ_ HO_382000) hb)
                replace HO_382001 := zR HO_382001 hb; replace BK381 := zK BK381 hb; replace HB := zB HB hb; (try clear hb); (try clear hb2); (try clear hk); (try clear hi)
                refine hK.out _ _ ⟨(kC BK381.out 0).trans rfl, (kC BK381.out 1).trans rfl, HS2_, HS3_, HS4_⟩ (fun hHeld => ?_)
                clear hK K
                refine norm_ (a' := ?_) ?_ ?_
                rotate_left
                ·show Act.put _ (some 59) _ = _
                 simp only [Act.put, List.setIfInBounds_toArray, List.set_cons_zero, List.set_cons_succ, i64_w, i32_w]
                 rfl
                refine zP 15 (some 60) #[true,true,true,true,true,true,true,true,true,true,true,true,true,true,true,true,false,true,false,false,false,false,false] ?_
                refine zP 16 (some 61) #[true,true,true,true,true,true,true,true,true,true,true,true,true,true,true,true,true,true,false,false,false,false,false] ?_
                refine one_ (i := 18) (N := some 63) #[true, true, true, true, true, true, true, true, true, true, true, true, true, true, true, true, true, true, true, false, false, false, false] rfl rfl (one_of HT_.out (by kernel_rfl)) (by decide) (fun K hK => ?_)
                refine goes_ Tryz.func23 (by kernel_rfl) rfl #[.agg #[.slice Ao9 t375.length co9, .slice Ao11 t378.length co11]] (by rfl) rfl rfl (by (try simp only [List.map_toArray, List.map_cons, List.map_nil]); first | done | rfl | (simp only [List.length_drop, List.length_take]; rfl)) ?_
                with_reducible refine (impl_MapGenus.calls kj5 _ _ t375 _ _ t378 t398 _ ?side1 ?side2 ?side3 ?side4 A43.out).mono ?_
                (case side1 => exact zDQ HO_382000)
                (case side2 => exact (Kd.Q_reads' HO_382000.out).2.1)
                (case side3 => exact zD HO_382001)
                (case side4 => exact (rR HO_382001.out).2.1)
                rintro e w63 ⟨rfl, hb⟩
                have HS2_ := (hb.cell (wL _ _ (hHeld.2.2.1))).trans (hHeld.2.2.1)
                have HS3_ := (hb.cell (wL _ _ (hHeld.2.2.2.1))).trans (hHeld.2.2.2.1)
                have HS4_ := (hb.cell (wL _ _ (hHeld.2.2.2.2))).trans (hHeld.2.2.2.2)
                refine ⟨_, rfl, ?_⟩
                replace HO_4 := zR HO_4 hb; replace HO_6 := zR HO_6 hb
                replace HO_382000 := A0_ (Kd.Q_below (zQ_ HO_382000) hb)
                replace HO_382001 := zR HO_382001 hb; replace BK381 := zK BK381 hb; replace HB := zB HB hb; (try clear hb); (try clear hb2); (try clear hk); (try clear hi)
                refine hK.out _ _ ⟨(kC BK381.out 0).trans rfl, (kC BK381.out 1).trans rfl, HS2_, HS3_, HS4_⟩ (fun hHeld => ?_)
                clear hK K
                refine norm_ (a' := ?_) ?_ ?_
                rotate_left
                ·show Act.put _ (some 63) _ = _
                 simp only [Act.put, List.setIfInBounds_toArray, List.set_cons_zero, List.set_cons_succ, i64_w, i32_w]
                 rfl
                refine one_ (i := 19) (N := some 64) #[true, true, true, true, true, true, true, true, true, true, true, true, true, true, true, true, true, true, true, true, false, false, false] rfl rfl (one_of HT_.out (by kernel_rfl)) (by decide) (fun K hK => ?_)
                refine goes_ Tryz.func22 (by kernel_rfl) rfl #[.int .i64 t398] (by rfl) rfl rfl (by (try simp only [List.map_toArray, List.map_cons, List.map_nil]); first | done | rfl | (simp only [List.length_drop, List.length_take]; rfl)) ?_
                with_reducible refine (laws_digits.calls kj5 t398 t399 _ A44.out).mono ?_
                rintro e w64 ⟨rfl, hb⟩
                have HS2_ := (hb.cell (wL _ _ (hHeld.2.2.1))).trans (hHeld.2.2.1)
                have HS3_ := (hb.cell (wL _ _ (hHeld.2.2.2.1))).trans (hHeld.2.2.2.1)
                have HS4_ := (hb.cell (wL _ _ (hHeld.2.2.2.2))).trans (hHeld.2.2.2.2)
                refine ⟨_, rfl, ?_⟩
                replace HO_4 := zR HO_4 hb; replace HO_6 := zR HO_6 hb
                replace HO_382000 := A0_ (Kd.Q_below (zQ_ HO_382000) hb)
                replace HO_382001 := zR HO_382001 hb; replace BK381 := zK BK381 hb; replace HB := zB HB hb; (try clear hb); (try clear hb2); (try clear hk); (try clear hi)
                refine hK.out _ _ ⟨(kC BK381.out 0).trans rfl, (kC BK381.out 1).trans rfl, HS2_, HS3_, HS4_⟩ (fun hHeld => ?_)
                clear hK K
                refine norm_ (a' := ?_) ?_ ?_
                rotate_left
                ·show Act.put _ (some 64) _ = _
                 simp only [Act.put, List.setIfInBounds_toArray, List.set_cons_zero, List.set_cons_succ, i64_w, i32_w]
                 rfl
                refine zP 20 (some 65) #[true,true,true,true,true,true,true,true,true,true,true,true,true,true,true,true,true,true,true,true,true,false,false] ?_
                refine zP 21 (some 66) #[true,true,true,true,true,true,true,true,true,true,true,true,true,true,true,true,true,true,true,true,true,true,false] ?_
                refine zP 22 (some 8) #[true,true,true,true,true,true,true,true,true,true,true,true,true,true,true,true,true,true,true,true,true,true,true] ?_
                refine done_ (done_of HT_.out (by kernel_rfl)) ?_
                try go_wp2
                replace HO_4 := A0_ (rD HO_4.out)
                replace HO_6 := A0_ (rD HO_6.out)
                replace HO_382000 := A0_ (Kd.Q_drew HO_382000.out)
                replace HO_382001 := A0_ (rD HO_382001.out)
                replace BK381 := A0_ (kD BK381.out)
                replace HB := A0_ (bD HB.out)
                refine start_ (n := 13) (S := fun w' => w'.cell? ⟨gb381, 0, none⟩ = some (.slice Ao9 t375.length co9) ∧ w'.cell? ⟨gb381, 1, none⟩ = some (.slice Ao11 t378.length co11)) (ds := []) #[false, false, false, false, false, false, false, false, false, false, false, false, false] (by kernel_rfl) rfl rfl ⟨(kC BK381.out 0).trans rfl, (kC BK381.out 1).trans rfl⟩ (fun hHeld => ?_); refine with_tabW laws_FnExecuteCounts.tab9 laws_FnExecuteCounts.bits9 (fun HT_ HW_ => ?_)
                generalize w64.drew = w65 at HO_4 HO_6 HO_382000 HO_382001 BK381 HB hHeld ⊢
                refine zP 4 (some 71) #[false,false,false,false,true,false,false,false,false,false,false,false,false] ?_
                refine zP 5 (some 72) #[false,false,false,false,true,true,false,false,false,false,false,false,false] ?_
                refine zP 6 (some 73) #[false,false,false,false,true,true,true,false,false,false,false,false,false] ?_
                refine take_ (i := 0) (N := some 67) (v := ?_) (a' := ?_) #[true, false, false, false, true, true, true, false, false, false, false, false, false] rfl rfl (take_ofW HT_.out HW_.out (by kernel_rfl)) (fun _ _ _ h => h) (Or.inl ⟨by rfl, ?_⟩) hHeld ?_ ?_
                rotate_left
                ·rintro w' ⟨s0, s1⟩
                 go_simp
                 with_reducible rfl
                rotate_left
                ·simp only [Act.put, List.setIfInBounds_toArray, List.set_cons_zero, List.set_cons_succ, i64_w, i32_w]
                 rfl
                refine take_ (i := 7) (N := some 74) (v := ?_) (a' := ?_) #[true, false, false, false, true, true, true, true, false, false, false, false, false] rfl rfl (take_ofW HT_.out HW_.out (by kernel_rfl)) (fun _ _ _ h => h) (Or.inl ⟨by rfl, ?_⟩) hHeld ?_ ?_
                rotate_left
                ·rintro w' ⟨s0, s1⟩
                 go_simp
                 with_reducible rfl
                rotate_left
                ·simp only [Act.put, List.setIfInBounds_toArray, List.set_cons_zero, List.set_cons_succ, i64_w, i32_w]
                 rfl
                refine zP 8 (some 75) #[true,false,false,false,true,true,true,true,true,false,false,false,false] ?_
                refine one_ (i := 1) (N := some 68) #[true, true, false, false, true, true, true, true, true, false, false, false, false] rfl rfl (one_of HT_.out (by kernel_rfl)) (by decide) (fun K hK => ?_)
                refine goes_ Tryz.func12 (by kernel_rfl) rfl #[.agg #[.slice Ao9 t375.length co9, .slice Ao11 t378.length co11]] (by rfl) rfl rfl (by (try simp only [List.map_toArray, List.map_cons, List.map_nil]); first | done | rfl | (simp only [List.length_drop, List.length_take]; rfl)) ?_
                with_reducible refine (laws_mapLine.calls kj5 _ _ t375 _ _ t378 t400 _ ?side1 ?side2 ?side3 ?side4 A49.out).mono ?_
                (case side1 => exact zDQ HO_382000)
                (case side2 => exact (Kd.Q_reads' HO_382000.out).2.1)
                (case side3 => exact zD HO_382001)
                (case side4 => exact (rR HO_382001.out).2.1)
                rintro e w66 ⟨rfl, hb⟩
                refine ⟨_, rfl, ?_⟩
                replace HO_4 := zR HO_4 hb; replace HO_6 := zR HO_6 hb
                replace HO_382000 := A0_ (Kd.Q_below (zQ_ HO_382000) hb)
                replace HO_382001 := zR HO_382001 hb; replace BK381 := zK BK381 hb; replace HB := zB HB hb; (try clear hb); (try clear hb2); (try clear hk); (try clear hi)
                refine hK.out _ _ ⟨(kC BK381.out 0).trans rfl, (kC BK381.out 1).trans rfl⟩ (fun hHeld => ?_)
                clear hK K
                refine norm_ (a' := ?_) ?_ ?_
                rotate_left
                ·show Act.put _ (some 68) _ = _
                 simp only [Act.put, List.setIfInBounds_toArray, List.set_cons_zero, List.set_cons_succ, i64_w, i32_w]
                 rfl
                refine zP 2 (some 69) #[true,true,true,false,true,true,true,true,true,false,false,false,false] ?_
                refine one_ (i := 3) (N := some 70) #[true, true, true, true, true, true, true, true, true, false, false, false, false] rfl rfl (one_of HT_.out (by kernel_rfl)) (by decide) (fun K hK => ?_)
                refine goes_ Tryz.func11 (by kernel_rfl) rfl #[.string zs51] (by rfl) rfl rfl (by (try simp only [List.map_toArray, List.map_cons, List.map_nil]); first | done | rfl | (simp only [List.length_drop, List.length_take]; rfl)) ?_
                with_reducible refine (impl_Execute.calls kj5 zs51 t401 _ A52.out).mono ?_
                rintro e w67 ⟨rfl, hb⟩
                refine ⟨_, rfl, ?_⟩
                replace HO_4 := zR HO_4 hb; replace HO_6 := zR HO_6 hb
                replace HO_382000 := A0_ (Kd.Q_below (zQ_ HO_382000) hb)
                replace HO_382001 := zR HO_382001 hb; replace BK381 := zK BK381 hb; replace HB := zB HB hb; (try clear hb); (try clear hb2); (try clear hk); (try clear hi)
                refine hK.out _ _ ⟨(kC BK381.out 0).trans rfl, (kC BK381.out 1).trans rfl⟩ (fun hHeld => ?_)
                clear hK K
                refine norm_ (a' := ?_) ?_ ?_
                rotate_left
                ·show Act.put _ (some 70) _ = _
                 simp only [Act.put, List.setIfInBounds_toArray, List.set_cons_zero, List.set_cons_succ, i64_w, i32_w]
                 rfl
                refine one_ (i := 9) (N := some 76) #[true, true, true, true, true, true, true, true, true, true, false, false, false] rfl rfl (one_of HT_.out (by kernel_rfl)) (by decide) (fun K hK => ?_)
                refine goes_ Tryz.func14 (by kernel_rfl) rfl #[.int .i64 (t375.length : Int)] (by rfl) rfl rfl (by (try simp only [List.map_toArray, List.map_cons, List.map_nil]); first | done | rfl | (simp only [List.length_drop, List.length_take]; rfl)) ?_
                with_reducible refine (laws_endLine.calls kj5 (t375.length : Int) t402 _ A55.out).mono ?_
                rintro e w68 ⟨rfl, hb⟩
                refine ⟨_, rfl, ?_⟩
                replace HO_4 := zR HO_4 hb; replace HO_6 := zR HO_6 hb
                replace HO_382000 := A0_ (Kd.Q_below (zQ_ HO_382000) hb)
                replace HO_382001 := zR HO_382001 hb; replace BK381 := zK BK381 hb; replace HB := zB HB hb; (try clear hb); (try clear hb2); (try clear hk); (try clear hi)
                refine hK.out _ _ ⟨(kC BK381.out 0).trans rfl, (kC BK381.out 1).trans rfl⟩ (fun hHeld => ?_)
                clear hK K
                refine norm_ (a' := ?_) ?_ ?_
                rotate_left
                ·show Act.put _ (some 76) _ = _
                 simp only [Act.put, List.setIfInBounds_toArray, List.set_cons_zero, List.set_cons_succ, i64_w, i32_w]
                 rfl
                refine zP 10 (some 77) #[true,true,true,true,true,true,true,true,true,true,true,false,false] ?_
                refine zP 11 (some 78) #[true,true,true,true,true,true,true,true,true,true,true,true,false] ?_
                refine zP 12 (some 2) #[true,true,true,true,true,true,true,true,true,true,true,true,true] ?_
                refine done_ (done_of HT_.out (by kernel_rfl)) ?_
                try go_wp2
                go_ret
                exact ⟨by first | rfl | (simp [*] <;> rfl), zB_ HB⟩
               rw [if_neg c56] at H
               exact absurd H (by simp)
              rw [if_neg c53] at H
              exact absurd H (by simp)
             rw [if_neg c50] at H
             exact absurd H (by simp)
            rw [if_neg c47] at H
            exact absurd H (by simp)
           rw [if_neg c45] at H
           exact absurd H (by simp)
          rw [if_neg c41] at H
          exact absurd H (by simp)
         rw [if_neg c39] at H
         exact absurd H (by simp)
        rw [if_neg c37] at H
        exact absurd H (by simp)
       rw [if_neg c35] at H
       exact absurd H (by simp)
      rw [if_neg c33] at H
      exact absurd H (by simp)
     rw [if_neg c31] at H
     exact absurd H (by simp)
    rw [if_neg c29] at H
    exact absurd H (by simp)
   rw [if_neg c27] at H
   exact absurd H (by simp)

/-- THE ONE PURE STATEMENT of laws_FnExecuteCounts: yours. -/
def laws_FnExecuteCounts.Pure : Prop := ∀ (l0 : List Int), l0.length ≤ maxLen → l0.length * 1 ≤ 140737488351232 → (∀ x ∈ l0, (Lit.int .u8 x).wf = true) → ∃ k, laws_FnExecuteCounts.f k l0 = some true
theorem laws_FnExecuteCounts.walk (P : laws_FnExecuteCounts.Pure) (a0 : Option Addr) (len0 cap0 : Nat) (z0 : List Int) (w : World) (w0 : (a0 = none ∧ len0 = 0 ∧ cap0 = 0 ∧ z0 = []) ∨ ∃ x, a0 = some x ∧ len0 ≤ cap0 ∧ cap0 ≤ maxLen ∧ z0.length = cap0 ∧ (∀ i, i < z0.length → w.cell? (x.add i) = some (.int .u8 (z0.getD i 0))) ∧ ∀ n ∈ z0, (Lit.int .u8 n).wf = true) (y0 : len0 * 1 ≤ 140737488351232) :
  Calls Tryz.prog 5 #[.slice a0 len0 cap0] w fun e w' => e = .returned (.bool true) ∧ Below w.heap.size w w' := by
 obtain ⟨l0, rfl, hr0, hm0, hw0, hc0⟩ := ReadsInt.ofRowC w0; obtain ⟨k, h⟩ := P l0 hm0 y0 hw0
 refine (laws_FnExecuteCounts.calls k _ _ l0 true w (Kd.C_of_reads (d := (0 : Int)) (h1 := fun _ => rfl) hr0) hc0 h).mono ?_
 rintro e w' ⟨rfl, hd⟩
 exact ⟨rfl, hd⟩

end Go.Proofs.YtikkokflcgcnbaaGreatDoor.PFnExecuteCounts
