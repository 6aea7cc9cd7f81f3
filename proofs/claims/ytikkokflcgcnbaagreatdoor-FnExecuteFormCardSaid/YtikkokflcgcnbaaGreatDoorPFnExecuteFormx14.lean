-- Made by a program of this session (wip/tools) out of the loaded program; not trusted: Lean checks it.
import Derived.Test.YtikkokflcgcnbaaGreatDoorPFnExecuteFormx0
import Derived.Test.YtikkokflcgcnbaaGreatDoorPFnExecuteFormx1
import Derived.Test.YtikkokflcgcnbaaGreatDoorPFnExecuteFormx5
import Derived.Test.YtikkokflcgcnbaaGreatDoorPFnExecuteFormx7
import Derived.Test.YtikkokflcgcnbaaGreatDoorPFnExecuteFormx8
import Derived.Test.YtikkokflcgcnbaaGreatDoorPFnExecuteFormx12
import Derived.Test.YtikkokflcgcnbaaGreatDoorPFnExecuteFormx13
-- packed
namespace Go.Proofs.YtikkokflcgcnbaaGreatDoor.PFnExecuteForm
open Go.RowKit Go.Proofs.YtikkokflcgcnbaaGreatDoorW.PrintWords Go.Proofs.YtikkokflcgcnbaaGreatDoorW.PrintLast Go.Proofs.YtikkokflcgcnbaaGreatDoorW.PrintMore
attribute [local go_sem] max2_int min2_int max_two min_two max_three min_three max_four min_four   -- for this text's walks alone
set_option linter.unusedVariables false
set_option linter.unusedSimpArgs false

/-! ### laws_FnExecuteForm: function 6 -/
def laws_FnExecuteForm.j0 : Nat → Int → Bool → Bool → Bool → List Int → List Int → List Int → List Int → List Int → List Int → Option (Bool)
  | 0, _, _, _, _, _, _, _, _, _, _ => none
  | k + 1, x4, x6, x8, x41, x466000, x466001, x474000, x474001, x482000, x482001 => if x41 = true then (if (x6 == x8) = true then ((laws_sameMap.f k x474000 x474001 x482000 x482001).bind fun t483 => (some t483)) else (some false)) else ((laws_mapLine.f k x466000 x466001).bind fun t484 => (if t484.size + 5 ≤ 9223372036854775807 then ((laws_digits.f k x4).bind fun t485 => (if (t484 ++ (⟨#[102, 111, 114, 109, 32]⟩ : ByteArray)).size + t485.size ≤ 9223372036854775807 then (if ((t484 ++ (⟨#[102, 111, 114, 109, 32]⟩ : ByteArray)) ++ t485).size + 6 ≤ 9223372036854775807 then ((impl_Execute.f k (((t484 ++ (⟨#[102, 111, 114, 109, 32]⟩ : ByteArray)) ++ t485) ++ (⟨#[10, 115, 104, 111, 119, 10]⟩ : ByteArray))).bind fun t486 => ((laws_shown.f k x474000 x474001).bind fun t487 => (if 6 + t487.size ≤ 9223372036854775807 then ((laws_endLine.f k (x466000.length : Int)).bind fun t488 => (if ((⟨#[111, 107, 10, 111, 107, 10]⟩ : ByteArray) ++ t487).size + t488.size ≤ 9223372036854775807 then (some (t486.toList == (((⟨#[111, 107, 10, 111, 107, 10]⟩ : ByteArray) ++ t487) ++ t488).toList)) else (none))) else (none)))) else (none)) else (none))) else (none)))
def laws_FnExecuteForm.f (k : Nat) (l0 : List Int) : Option (Bool) := if (l0.length : Int) > 1048576 then (some true) else ((spec_DrawMapForm.f k l0).bind fun bt458 => ((impl_MapForm.f k bt458.1 bt458.2.1 bt458.2.2).bind fun bt466 => ((spec_MapForm.f k bt458.1 bt458.2.1 bt458.2.2).bind fun bt474 => (if (bt466.2.2 != bt474.2.2) = true then (laws_FnExecuteForm.j0 k bt458.2.2 bt466.2.2 bt474.2.2 true bt458.1 bt458.2.1 bt466.1 bt466.2.1 bt474.1 bt474.2.1) else ((laws_sameMap.f k bt466.1 bt466.2.1 bt474.1 bt474.2.1).bind fun t482 => (if t482 = true then (laws_FnExecuteForm.j0 k bt458.2.2 bt466.2.2 bt474.2.2 (!bt466.2.2) bt458.1 bt458.2.1 bt466.1 bt466.2.1 bt474.1 bt474.2.1) else (laws_FnExecuteForm.j0 k bt458.2.2 bt466.2.2 bt474.2.2 true bt458.1 bt458.2.1 bt466.1 bt466.2.1 bt474.1 bt474.2.1)))))))
def laws_FnExecuteForm.T8 : Bool × List (List Nat × List Nat) := (true, [([], []), ([0], [0]), ([1], [1]), ([], []), ([3, 1], [3]), ([2, 4], [2, 4]), ([5], [5]), ([6, 4], [6]), ([], []), ([8, 7], [8]), ([9], [9]), ([], []), ([11], [11]), ([12], [12]), ([13, 9], [13]), ([10, 14], [10, 14]), ([7, 15], [7, 15]), ([16, 14, 0, 1, 2, 3, 4, 5, 6, 7, 8, 9, 10, 11, 12, 13, 14, 15, 16], [16])])
def laws_FnExecuteForm.B8 : List Nat := [0, 1, 3, 0, 11, 31, 63, 127, 0, 511, 1023, 0, 2048, 6144, 15359, 32767, 65535, 131071]
theorem laws_FnExecuteForm.tab8 : rtab .any (opsOf Tryz.f6 8) = laws_FnExecuteForm.T8 := by kernel_rfl
theorem laws_FnExecuteForm.bits8 : waitsOk laws_FnExecuteForm.T8.2 laws_FnExecuteForm.B8 = true := by kernel_rfl
set_option maxHeartbeats 8000000 in
set_option maxRecDepth 100000 in
theorem laws_FnExecuteForm.calls (k : Nat) (A0 : Option Addr) (c0 : Nat) (l0 : List Int) (r : Bool) (w : World) (hr0 : Kd.C (Kd.int .u8) w A0 l0.length l0) (hc0 : l0.length ≤ c0) (h : laws_FnExecuteForm.f k l0 = some r) :
    Calls Tryz.prog 6 #[.slice A0 l0.length c0] w fun e w' => e = .returned (.bool r) ∧ Below w.heap.size w w' := by
 have hu25 := Tryz.underlying25; have HR0 := A0_ hr0; have HC0 := A0_ hc0; clear hr0 hc0
 have HB := A0_ (Below.refl w.heap.size w)
 have H : (if (l0.length : Int) > 1048576 then (some true) else ((spec_DrawMapForm.f k l0).bind fun bt458 => ((impl_MapForm.f k bt458.1 bt458.2.1 bt458.2.2).bind fun bt466 => ((spec_MapForm.f k bt458.1 bt458.2.1 bt458.2.2).bind fun bt474 => (if (bt466.2.2 != bt474.2.2) = true then (laws_FnExecuteForm.j0 k bt458.2.2 bt466.2.2 bt474.2.2 true bt458.1 bt458.2.1 bt466.1 bt466.2.1 bt474.1 bt474.2.1) else ((laws_sameMap.f k bt466.1 bt466.2.1 bt474.1 bt474.2.1).bind fun t482 => (if t482 = true then (laws_FnExecuteForm.j0 k bt458.2.2 bt466.2.2 bt474.2.2 (!bt466.2.2) bt458.1 bt458.2.1 bt466.1 bt466.2.1 bt474.1 bt474.2.1) else (laws_FnExecuteForm.j0 k bt458.2.2 bt466.2.2 bt474.2.2 true bt458.1 bt458.2.1 bt466.1 bt466.2.1 bt474.1 bt474.2.1)))))))) = some r := h
 clear h
 by_cases c2 : (l0.length : Int) > 1048576
 ·rw [if_pos c2] at H
  have c2b0 : decide (1048576 < (l0.length : Int)) = true := dT c2
  have c2b1 : decide (1048576 < l0.length) = true := dT (by omega)
  clear c2; obtain rfl := sI H
  go_enter Tryz.func6, Tryz.ntmps6
  go_wp2
  go_ret
  exact ⟨by first | rfl | (simp [*] <;> rfl), zB_ HB⟩
 rw [if_neg c2] at H
 have c2b0 : decide (1048576 < (l0.length : Int)) = false := dF c2
 have c2b1 : decide (1048576 < l0.length) = false := dF (by omega)
 clear c2; obtain ⟨⟨t458, t461, t464⟩, A3, H⟩ := zbind H; dsimp only at H; obtain ⟨⟨t466, t469, t472⟩, A4, H⟩ := zbind H; dsimp only at H; obtain ⟨⟨t474, t477, t480⟩, A5, H⟩ := zbind H; dsimp only at H; have HC6 := A0_ H; clear H
 go_enter Tryz.func6, Tryz.ntmps6
 go_upto_region 6 with (first | ((with_reducible refine gC (f := 24) rfl ?_); refine zJ (some 14) Tryz.func24 #[.slice A0 l0.length c0] ?_; (with_reducible refine (spec_DrawMapForm.calls k _ _ l0 t458 t461 t464 _ ?side1 ?side2 A3.out).mono ?_); (case side1 => repeat (first | exact HR0.out | (with_reducible refine cA ?_ _) | (with_reducible refine cN ?_ _) | (with_reducible refine cD ?_))); (case side2 => exact HC0.out); rintro e w7 ⟨v459, v462, rfl, ho0, ho1, hb⟩; refine ⟨_, rfl, ?_⟩; have HO460 := A0_ (Kd.Q_lower ho0 (bZ (zB_ HB))); have HO463 := A0_ (rL ho1 (bZ (zB_ HB))); replace HB := zB HB hb; (try clear hb); (try clear ho0); (try clear ho1)) | ((with_reducible refine gD (N := 3) rfl ?_); refine zX (N := 3) (cs := #[.slice none 0 0, .slice none 0 0]) (t := 25) ?_; intro gb465 hg w8 hbox hb; replace HO460 := A0_ (Kd.Q_below (zQ_ HO460) hb); replace HO463 := zR HO463 hb; have BK465 := A0_ (hbox); have GW465 := zG hg HB; have GE465 := zG hg HB; replace HB := zB HB hb; clear hb hbox hg; obtain ⟨Ao9, co9, eo9, _⟩ := Kd.Q_slice HO460.out; subst eo9; have hcz10_0 := zc0 BK465; have hcz10_1 := zc1 BK465; have hfz10_0 := kF BK465.out 0; have hfz10_1 := kF BK465.out 1; obtain ⟨Ao11, co11, eo11⟩ := rS HO463.out; subst eo11) | ((with_reducible refine gC (f := 25) rfl ?_); refine zJ (some 20) Tryz.func25 #[.agg #[.slice Ao9 t458.length co9, .slice Ao11 t461.length co11], .int .i64 t464] ?_; (with_reducible refine (impl_MapForm.calls k _ _ t458 _ _ t461 t464 t466 t469 t472 _ ?side1 ?side2 ?side3 ?side4 A4.out).mono ?_); (case side1 => refine (Kd.Q_reads' (e := 3) (base := w.heap.size) (ok := fun k_ => some k_ ≠ (.slice Ao11 t461.length co11 : Value).ownBlock) (n := t458.length) (c := co9) ?_).2.2; exact (by (with_reducible repeat (first | apply Kd.Q_alloc | apply Kd.Q_drewN | apply Kd.Q_drew)); exact (Kd.Q_mono (Kd.Q_far (p := ⟨gb465, 1, none⟩) (Kd.Q_far (p := ⟨gb465, 0, none⟩) (Kd.Q_types HO460.out BK465.out (by decide)) (fun _ hk => hk.2) (.slice Ao9 t458.length co9)) (fun _ hk => hk.2) (.slice Ao11 t461.length co11)) (fun _ h_ => h_.1)))); (case side2 => exact (Kd.Q_reads' HO460.out).2.1); (case side3 => refine (rR (e := 3) (base := w.heap.size) (ok := fun k_ => some k_ ≠ (.slice Ao9 t458.length co9 : Value).ownBlock) (n := t461.length) (c := co11) ?_).2.2; exact (zF HO463 BK465 (.slice Ao9 t458.length co9) (.slice Ao11 t461.length co11) 0 1)); (case side4 => exact (rR HO463.out).2.1); rintro e w12 ⟨v467, v470, rfl, ho0, ho1, hb⟩; refine ⟨_, rfl, ?_⟩; have HO468 := A0_ (rL (Kd.R_new' (Kd.R_new' ho0 (Kd.Q_lt (by (with_reducible repeat (first | apply Kd.Q_alloc | apply Kd.Q_drewN | apply Kd.Q_drew)); exact (Kd.Q_mono (Kd.Q_far (p := ⟨gb465, 1, none⟩) (Kd.Q_far (p := ⟨gb465, 0, none⟩) (Kd.Q_types HO460.out BK465.out (by decide)) (fun _ hk => hk.2) (.slice Ao9 t458.length co9)) (fun _ hk => hk.2) (.slice Ao11 t461.length co11)) (fun _ h_ => h_.1))))) (rX (zF HO463 BK465 (.slice Ao9 t458.length co9) (.slice Ao11 t461.length co11) 0 1))) (bZ (zB_ HB))); have HO471 := A0_ (rL (Kd.R_new' (Kd.R_new' ho1 (Kd.Q_lt (by (with_reducible repeat (first | apply Kd.Q_alloc | apply Kd.Q_drewN | apply Kd.Q_drew)); exact (Kd.Q_mono (Kd.Q_far (p := ⟨gb465, 1, none⟩) (Kd.Q_far (p := ⟨gb465, 0, none⟩) (Kd.Q_types HO460.out BK465.out (by decide)) (fun _ hk => hk.2) (.slice Ao9 t458.length co9)) (fun _ hk => hk.2) (.slice Ao11 t461.length co11)) (fun _ h_ => h_.1))))) (rX (zF HO463 BK465 (.slice Ao9 t458.length co9) (.slice Ao11 t461.length co11) 0 1))) (bZ (zB_ HB))); replace HO460 := A0_ (Kd.Q_mono (Kd.Q_told (Kd.Q_told (Kd.Q_old (by (with_reducible repeat (first | apply Kd.Q_alloc | apply Kd.Q_drewN | apply Kd.Q_drew)); exact (Kd.Q_mono (Kd.Q_far (p := ⟨gb465, 1, none⟩) (Kd.Q_far (p := ⟨gb465, 0, none⟩) (Kd.Q_types HO460.out BK465.out (by decide)) (fun _ hk => hk.2) (.slice Ao9 t458.length co9)) (fun _ hk => hk.2) (.slice Ao11 t461.length co11)) (fun _ h_ => h_.1))) hb) (Kd.R_base ho0)) (Kd.R_base ho1)) (fun _ h_ => h_.1)); replace HO463 := A0_ (rM (rT (rT (rO (zF HO463 BK465 (.slice Ao9 t458.length co9) (.slice Ao11 t461.length co11) 0 1) hb) (Kd.R_base ho0)) (Kd.R_base ho1)) (fun _ h_ => h_.1)); replace BK465 := A0_ (kB (g := gb465) (o := .cells #[.slice Ao9 t458.length co9, .slice Ao11 t461.length co11] 25 (0, 0)) (by (with_reducible repeat (first | refine kN ?_ _ | refine kD ?_ | refine kA ?_ _)); refine blk_put (cs := #[.slice Ao9 t458.length co9, .slice none 0 0]) ?_ 1 _ rfl; (with_reducible repeat (first | refine kN ?_ _ | refine kD ?_ | refine kA ?_ _)); refine blk_put (cs := #[.slice none 0 0, .slice none 0 0]) ?_ 0 _ rfl; (with_reducible repeat (first | refine kN ?_ _ | refine kD ?_ | refine kA ?_ _)); exact BK465.out) hb); replace HB := zB HB hb; (try clear hb); (try clear ho0); (try clear ho1)) | ((with_reducible refine gD (N := 5) rfl ?_); refine zX (N := 5) (cs := #[.slice none 0 0, .slice none 0 0]) (t := 25) ?_; intro gb473 hg w13 hbox hb; replace HO460 := A0_ (Kd.Q_below (zQ_ HO460) hb); replace HO463 := zR HO463 hb; replace HO468 := zR HO468 hb; replace HO471 := zR HO471 hb; have BK473 := A0_ (hbox); have GW473 := zG hg HB; have GE473 := zG hg HB; replace HB := zB HB hb; have NB465_473 := zL hg BK465; have NB473_465 := zM hg BK465; replace BK465 := zK BK465 hb; clear hb hbox hg; obtain ⟨Ao14, co14, eo14⟩ := rS HO468.out; subst eo14; have hnb15 := NB473_465.out; have hnc15 := NB465_473.out; have hcz16_0 := zc0 BK473; have hcz16_1 := zc1 BK473; have hfz16_0 := kF BK473.out 0; have hfz16_1 := kF BK473.out 1; obtain ⟨Ao17, co17, eo17⟩ := rS HO471.out; subst eo17; have hcz18_0 := zc0 BK465; have hcz18_1 := zc1 BK465; have hfz18_0 := kF BK465.out 0; have hfz18_1 := kF BK465.out 1) | ((with_reducible refine gC (f := 26) rfl ?_); refine zJ (some 26) Tryz.func26 #[.agg #[.slice Ao9 t458.length co9, .slice Ao11 t461.length co11], .int .i64 t464] ?_; (with_reducible refine (spec_MapForm.calls k _ _ t458 _ _ t461 t464 t474 t477 t480 _ ?side1 ?side2 ?side3 ?side4 A5.out).mono ?_); (case side1 => refine (Kd.Q_reads' (e := 3) (base := w.heap.size) (ok := fun k_ => ((some k_ ≠ (.slice Ao11 t461.length co11 : Value).ownBlock ∧ some k_ ≠ (.slice Ao14 t466.length co14 : Value).ownBlock) ∧ some k_ ≠ (.slice Ao17 t469.length co17 : Value).ownBlock)) (n := t458.length) (c := co9) ?_).2.2; exact (by (with_reducible repeat (first | apply Kd.Q_alloc | apply Kd.Q_drewN | apply Kd.Q_drew)); exact (Kd.Q_mono (Kd.Q_far (p := ⟨gb473, 1, none⟩) (Kd.Q_far (p := ⟨gb473, 0, none⟩) (Kd.Q_types HO460.out BK473.out (by decide)) (fun _ hk => hk.2) (.slice Ao14 t466.length co14)) (fun _ hk => hk.2) (.slice Ao17 t469.length co17)) (fun _ h_ => h_.1)))); (case side2 => exact (Kd.Q_reads' HO460.out).2.1); (case side3 => refine (rR (e := 3) (base := w.heap.size) (ok := fun k_ => ((some k_ ≠ (.slice Ao9 t458.length co9 : Value).ownBlock ∧ some k_ ≠ (.slice Ao14 t466.length co14 : Value).ownBlock) ∧ some k_ ≠ (.slice Ao17 t469.length co17 : Value).ownBlock)) (n := t461.length) (c := co11) ?_).2.2; exact (zF HO463 BK473 (.slice Ao14 t466.length co14) (.slice Ao17 t469.length co17) 0 1)); (case side4 => exact (rR HO463.out).2.1); rintro e w19 ⟨v475, v478, rfl, ho0, ho1, hb⟩; refine ⟨_, rfl, ?_⟩; have HO476 := A0_ (rL (Kd.R_new' (Kd.R_new' (Kd.R_new' (Kd.R_new' ho0 (Kd.Q_lt (by (with_reducible repeat (first | apply Kd.Q_alloc | apply Kd.Q_drewN | apply Kd.Q_drew)); exact (Kd.Q_mono (Kd.Q_far (p := ⟨gb473, 1, none⟩) (Kd.Q_far (p := ⟨gb473, 0, none⟩) (Kd.Q_types HO460.out BK473.out (by decide)) (fun _ hk => hk.2) (.slice Ao14 t466.length co14)) (fun _ hk => hk.2) (.slice Ao17 t469.length co17)) (fun _ h_ => h_.1))))) (rX (zF HO463 BK473 (.slice Ao14 t466.length co14) (.slice Ao17 t469.length co17) 0 1))) (rX (zF HO468 BK473 (.slice Ao14 t466.length co14) (.slice Ao17 t469.length co17) 0 1))) (rX (zF HO471 BK473 (.slice Ao14 t466.length co14) (.slice Ao17 t469.length co17) 0 1))) (bZ (zB_ HB))); have HO479 := A0_ (rL (Kd.R_new' (Kd.R_new' (Kd.R_new' (Kd.R_new' ho1 (Kd.Q_lt (by (with_reducible repeat (first | apply Kd.Q_alloc | apply Kd.Q_drewN | apply Kd.Q_drew)); exact (Kd.Q_mono (Kd.Q_far (p := ⟨gb473, 1, none⟩) (Kd.Q_far (p := ⟨gb473, 0, none⟩) (Kd.Q_types HO460.out BK473.out (by decide)) (fun _ hk => hk.2) (.slice Ao14 t466.length co14)) (fun _ hk => hk.2) (.slice Ao17 t469.length co17)) (fun _ h_ => h_.1))))) (rX (zF HO463 BK473 (.slice Ao14 t466.length co14) (.slice Ao17 t469.length co17) 0 1))) (rX (zF HO468 BK473 (.slice Ao14 t466.length co14) (.slice Ao17 t469.length co17) 0 1))) (rX (zF HO471 BK473 (.slice Ao14 t466.length co14) (.slice Ao17 t469.length co17) 0 1))) (bZ (zB_ HB))); replace HO460 := A0_ (Kd.Q_mono (Kd.Q_told (Kd.Q_told (Kd.Q_old (by (with_reducible repeat (first | apply Kd.Q_alloc | apply Kd.Q_drewN | apply Kd.Q_drew)); exact (Kd.Q_mono (Kd.Q_far (p := ⟨gb473, 1, none⟩) (Kd.Q_far (p := ⟨gb473, 0, none⟩) (Kd.Q_types HO460.out BK473.out (by decide)) (fun _ hk => hk.2) (.slice Ao14 t466.length co14)) (fun _ hk => hk.2) (.slice Ao17 t469.length co17)) (fun _ h_ => h_.1))) hb) (Kd.R_base ho0)) (Kd.R_base ho1)) (fun _ h_ => h_.1)); replace HO463 := A0_ (rM (rT (rT (rO (zF HO463 BK473 (.slice Ao14 t466.length co14) (.slice Ao17 t469.length co17) 0 1) hb) (Kd.R_base ho0)) (Kd.R_base ho1)) (fun _ h_ => h_.1)); replace HO468 := A0_ (rM (rT (rT (rO (zF HO468 BK473 (.slice Ao14 t466.length co14) (.slice Ao17 t469.length co17) 0 1) hb) (Kd.R_base ho0)) (Kd.R_base ho1)) (fun _ h_ => h_.1)); replace HO471 := A0_ (rM (rT (rT (rO (zF HO471 BK473 (.slice Ao14 t466.length co14) (.slice Ao17 t469.length co17) 0 1) hb) (Kd.R_base ho0)) (Kd.R_base ho1)) (fun _ h_ => h_.1)); replace BK465 := A0_ (kB (g := gb465) (o := .cells #[.slice Ao9 t458.length co9, .slice Ao11 t461.length co11] 25 (0, 0)) (by (with_reducible repeat (first | refine kN ?_ _ | refine kD ?_ | refine kA ?_ _)); refine blk_far ?_ NB465_473.out _; (with_reducible repeat (first | refine kN ?_ _ | refine kD ?_ | refine kA ?_ _)); refine blk_far ?_ NB465_473.out _; (with_reducible repeat (first | refine kN ?_ _ | refine kD ?_ | refine kA ?_ _)); exact BK465.out) hb); replace BK473 := A0_ (kB (g := gb473) (o := .cells #[.slice Ao14 t466.length co14, .slice Ao17 t469.length co17] 25 (0, 0)) (by (with_reducible repeat (first | refine kN ?_ _ | refine kD ?_ | refine kA ?_ _)); refine blk_put (cs := #[.slice Ao14 t466.length co14, .slice none 0 0]) ?_ 1 _ rfl; (with_reducible repeat (first | refine kN ?_ _ | refine kD ?_ | refine kA ?_ _)); refine blk_put (cs := #[.slice none 0 0, .slice none 0 0]) ?_ 0 _ rfl; (with_reducible repeat (first | refine kN ?_ _ | refine kD ?_ | refine kA ?_ _)); exact BK473.out) hb); replace HB := zB HB hb; (try clear hb); (try clear ho0); (try clear ho1)) | ((with_reducible refine gD (N := 7) rfl ?_); refine zX (N := 7) (cs := #[.slice none 0 0, .slice none 0 0]) (t := 25) ?_; intro gb481 hg w20 hbox hb; replace HO460 := A0_ (Kd.Q_below (zQ_ HO460) hb); replace HO463 := zR HO463 hb; replace HO468 := zR HO468 hb; replace HO471 := zR HO471 hb; replace HO476 := zR HO476 hb; replace HO479 := zR HO479 hb; have BK481 := A0_ (hbox); have GW481 := zG hg HB; have GE481 := zG hg HB; replace HB := zB HB hb; have NB465_481 := zL hg BK465; have NB481_465 := zM hg BK465; replace BK465 := zK BK465 hb; have NB473_481 := zL hg BK473; have NB481_473 := zM hg BK473; replace BK473 := zK BK473 hb; clear hb hbox hg; obtain ⟨Ao21, co21, eo21⟩ := rS HO476.out; subst eo21; have hnb22 := NB481_465.out; have hnc22 := NB465_481.out; have hnb23 := NB481_473.out; have hnc23 := NB473_481.out; have hcz24_0 := zc0 BK481; have hcz24_1 := zc1 BK481; have hfz24_0 := kF BK481.out 0; have hfz24_1 := kF BK481.out 1; obtain ⟨Ao25, co25, eo25⟩ := rS HO479.out; subst eo25))
 (try simp only [Act.put, List.setIfInBounds_toArray, List.set_cons_zero, List.set_cons_succ])
 go_cut [41] (fun v41 wc => ∃ (kq : Nat) (x41_5 : Bool), v41 = .bool x41_5 ∧ Aside0 (laws_FnExecuteForm.j0 kq t464 t472 t480 x41_5 t458 t461 t466 t469 t474 t477 = some r) ∧ Aside0 (kq ≤ k) ∧ Aside0 (Kd.Q (Kd.int .i64) 3 wc w.heap.size (fun k_ => some k_ ≠ ((.slice Ao11 t461.length co11) : Value).ownBlock ∧ some k_ ≠ ((.slice Ao14 t466.length co14) : Value).ownBlock ∧ some k_ ≠ ((.slice Ao17 t469.length co17) : Value).ownBlock ∧ some k_ ≠ ((.slice Ao21 t474.length co21) : Value).ownBlock ∧ some k_ ≠ ((.slice Ao25 t477.length co25) : Value).ownBlock) (.slice Ao9 t458.length co9) t458) ∧ Aside0 (Kd.R (Kd.int .i64) 3 wc w.heap.size (fun k_ => some k_ ≠ ((.slice Ao9 t458.length co9) : Value).ownBlock ∧ some k_ ≠ ((.slice Ao14 t466.length co14) : Value).ownBlock ∧ some k_ ≠ ((.slice Ao17 t469.length co17) : Value).ownBlock ∧ some k_ ≠ ((.slice Ao21 t474.length co21) : Value).ownBlock ∧ some k_ ≠ ((.slice Ao25 t477.length co25) : Value).ownBlock) (.slice Ao11 t461.length co11) t461) ∧ Aside0 (Kd.Q (Kd.int .i64) 3 wc w.heap.size (fun k_ => some k_ ≠ ((.slice Ao9 t458.length co9) : Value).ownBlock ∧ some k_ ≠ ((.slice Ao11 t461.length co11) : Value).ownBlock ∧ some k_ ≠ ((.slice Ao17 t469.length co17) : Value).ownBlock ∧ some k_ ≠ ((.slice Ao21 t474.length co21) : Value).ownBlock ∧ some k_ ≠ ((.slice Ao25 t477.length co25) : Value).ownBlock) (.slice Ao14 t466.length co14) t466) ∧ Aside0 (Kd.R (Kd.int .i64) 3 wc w.heap.size (fun k_ => some k_ ≠ ((.slice Ao9 t458.length co9) : Value).ownBlock ∧ some k_ ≠ ((.slice Ao11 t461.length co11) : Value).ownBlock ∧ some k_ ≠ ((.slice Ao14 t466.length co14) : Value).ownBlock ∧ some k_ ≠ ((.slice Ao21 t474.length co21) : Value).ownBlock ∧ some k_ ≠ ((.slice Ao25 t477.length co25) : Value).ownBlock) (.slice Ao17 t469.length co17) t469) ∧ Aside0 (Kd.Q (Kd.int .i64) 3 wc w.heap.size (fun k_ => some k_ ≠ ((.slice Ao9 t458.length co9) : Value).ownBlock ∧ some k_ ≠ ((.slice Ao11 t461.length co11) : Value).ownBlock ∧ some k_ ≠ ((.slice Ao14 t466.length co14) : Value).ownBlock ∧ some k_ ≠ ((.slice Ao17 t469.length co17) : Value).ownBlock ∧ some k_ ≠ ((.slice Ao25 t477.length co25) : Value).ownBlock) (.slice Ao21 t474.length co21) t474) ∧ Aside0 (Kd.R (Kd.int .i64) 3 wc w.heap.size (fun k_ => some k_ ≠ ((.slice Ao9 t458.length co9) : Value).ownBlock ∧ some k_ ≠ ((.slice Ao11 t461.length co11) : Value).ownBlock ∧ some k_ ≠ ((.slice Ao14 t466.length co14) : Value).ownBlock ∧ some k_ ≠ ((.slice Ao17 t469.length co17) : Value).ownBlock ∧ some k_ ≠ ((.slice Ao21 t474.length co21) : Value).ownBlock) (.slice Ao25 t477.length co25) t477) ∧ Aside0 (wc.heap[gb465]? = some (.cells #[(.slice Ao9 t458.length co9), (.slice Ao11 t461.length co11)] 25 (0, 0))) ∧ Aside0 (wc.heap[gb473]? = some (.cells #[(.slice Ao14 t466.length co14), (.slice Ao17 t469.length co17)] 25 (0, 0))) ∧ Aside0 (wc.heap[gb481]? = some (.cells #[(.slice Ao21 t474.length co21), (.slice Ao25 t477.length co25)] 25 (0, 0))) ∧ Aside0 (Below w.heap.size w wc))
 case first =>
  have H := HC6.out; clear HC6
  by_cases c26 : (t472 != t480) = true
  ·rw [if_pos c26] at H
   have c26b0 : (t472 != t480) = true := c26
   (try (have c26b1 : decide (t472 = t480) = false := by simpa using c26))
   (try (have c26b2 : (t472 == t480) = false := by simpa using c26))
   (try (have c26b3 : ¬ (t472 = t480) := by simpa using c26))
   clear c26
   (first | rw [c26b0] | (simp only [i64_w, i32_w]; rw [c26b0]) | skip)
   have H' := A0_ H; clear H
   go_wp2
   go_meet
   case rel => exact ⟨_, (true), zt, H', zo, ⟨by (with_reducible repeat (first | apply Kd.Q_alloc | apply Kd.Q_drewN | apply Kd.Q_drew)); exact Kd.Q_mono (Kd.Q_far (p := ⟨gb481, 1, none⟩) (Kd.Q_far (p := ⟨gb481, 0, none⟩) (Kd.Q_types HO460.out BK481.out (by decide)) (fun _ hk => hk.2) (.slice Ao21 t474.length co21)) (fun _ hk => hk.2) (.slice Ao25 t477.length co25)) (fun _ hk => ⟨hk.1.1.1.1.1, ⟨hk.1.1.1.1.2, ⟨hk.1.1.1.2, ⟨hk.1.1.2, hk.1.2⟩⟩⟩⟩)⟩, ⟨by (with_reducible repeat (first | apply rA | apply rN | apply rD)); exact rM (rF (p := ⟨gb481, 1, none⟩) (rF (p := ⟨gb481, 0, none⟩) (rY HO463.out BK481.out (by decide)) (fun _ hk => hk.2) (.slice Ao21 t474.length co21)) (fun _ hk => hk.2) (.slice Ao25 t477.length co25)) (fun _ hk => ⟨hk.1.1.1.1.1, ⟨hk.1.1.1.1.2, ⟨hk.1.1.1.2, ⟨hk.1.1.2, hk.1.2⟩⟩⟩⟩)⟩, ⟨Kd.Q_of_R (by (with_reducible repeat (first | apply rA | apply rN | apply rD)); exact rM (rF (p := ⟨gb481, 1, none⟩) (rF (p := ⟨gb481, 0, none⟩) (rY HO468.out BK481.out (by decide)) (fun _ hk => hk.2) (.slice Ao21 t474.length co21)) (fun _ hk => hk.2) (.slice Ao25 t477.length co25)) (fun _ hk => ⟨hk.1.1.1.1.2, ⟨hk.1.1.1.2, ⟨hk.1.1.1.1.1, ⟨hk.1.1.2, hk.1.2⟩⟩⟩⟩))⟩, ⟨by (with_reducible repeat (first | apply rA | apply rN | apply rD)); exact rM (rF (p := ⟨gb481, 1, none⟩) (rF (p := ⟨gb481, 0, none⟩) (rY HO471.out BK481.out (by decide)) (fun _ hk => hk.2) (.slice Ao21 t474.length co21)) (fun _ hk => hk.2) (.slice Ao25 t477.length co25)) (fun _ hk => ⟨hk.1.1.1.1.2, ⟨hk.1.1.1.2, ⟨hk.1.1.1.1.1, ⟨hk.1.1.2, hk.1.2⟩⟩⟩⟩)⟩, ⟨Kd.Q_of_R (by (with_reducible repeat (first | apply rA | apply rN | apply rD)); exact rM (rF (p := ⟨gb481, 1, none⟩) (rF (p := ⟨gb481, 0, none⟩) (rY HO476.out BK481.out (by decide)) (fun _ hk => hk.2) (.slice Ao21 t474.length co21)) (fun _ hk => hk.2) (.slice Ao25 t477.length co25)) (fun _ hk => ⟨hk.1.1.1.1.2, ⟨hk.1.1.1.2, ⟨hk.1.1.2, ⟨hk.1.2, hk.1.1.1.1.1⟩⟩⟩⟩))⟩, ⟨by (with_reducible repeat (first | apply rA | apply rN | apply rD)); exact rM (rF (p := ⟨gb481, 1, none⟩) (rF (p := ⟨gb481, 0, none⟩) (rY HO479.out BK481.out (by decide)) (fun _ hk => hk.2) (.slice Ao21 t474.length co21)) (fun _ hk => hk.2) (.slice Ao25 t477.length co25)) (fun _ hk => ⟨hk.1.1.1.1.2, ⟨hk.1.1.1.2, ⟨hk.1.1.2, ⟨hk.1.2, hk.1.1.1.1.1⟩⟩⟩⟩)⟩, ⟨by (with_reducible repeat (first | refine kN ?_ _ | refine kD ?_ | refine kA ?_ _)); refine blk_far ?_ NB465_481.out _; (with_reducible repeat (first | refine kN ?_ _ | refine kD ?_ | refine kA ?_ _)); refine blk_far ?_ NB465_481.out _; (with_reducible repeat (first | refine kN ?_ _ | refine kD ?_ | refine kA ?_ _)); exact BK465.out⟩, ⟨by (with_reducible repeat (first | refine kN ?_ _ | refine kD ?_ | refine kA ?_ _)); refine blk_far ?_ NB473_481.out _; (with_reducible repeat (first | refine kN ?_ _ | refine kD ?_ | refine kA ?_ _)); refine blk_far ?_ NB473_481.out _; (with_reducible repeat (first | refine kN ?_ _ | refine kD ?_ | refine kA ?_ _)); exact BK473.out⟩, ⟨by (with_reducible repeat (first | refine kN ?_ _ | refine kD ?_ | refine kA ?_ _)); refine blk_put (cs := #[.slice Ao21 t474.length co21, .slice none 0 0]) ?_ 1 _ rfl; (with_reducible repeat (first | refine kN ?_ _ | refine kD ?_ | refine kA ?_ _)); refine blk_put (cs := #[.slice none 0 0, .slice none 0 0]) ?_ 0 _ rfl; (with_reducible repeat (first | refine kN ?_ _ | refine kD ?_ | refine kA ?_ _)); exact BK481.out⟩, ⟨zB_ HB⟩⟩
  rw [if_neg c26] at H
  have c26b0 : (t472 != t480) = false := by simpa using c26
  (try (have c26b1 : decide (t472 = t480) = true := by simpa using c26))
  (try (have c26b2 : (t472 == t480) = true := by simpa using c26))
  clear c26
  (first | rw [c26b0] | (simp only [i64_w, i32_w]; rw [c26b0]) | skip)
  obtain ⟨t482, A27, H⟩ := zbind H
  by_cases c28 : t482 = true
  ·subst c28
   rw [if_pos rfl] at H; have H' := A0_ H; clear H; have hnb29 := NB473_465.out; have hnc29 := NB465_473.out; have hnb30 := NB473_481.out; have hnc30 := NB481_473.out; have hcz31_0 := zc0 BK473; have hcz31_1 := zc1 BK473; have hfz31_0 := kF BK473.out 0; have hfz31_1 := kF BK473.out 1; have hnb32 := NB481_465.out; have hnc32 := NB465_481.out; have hcz33_0 := zc0 BK481; have hcz33_1 := zc1 BK481; have hfz33_0 := kF BK481.out 0; have hfz33_1 := kF BK481.out 1
   go_wp2_with (first | (go_at_call 10; (with_reducible refine (laws_sameMap.calls k _ _ t466 _ _ t469 _ _ t474 _ _ t477 true _ ?side1 ?side2 ?side3 ?side4 ?side5 ?side6 ?side7 ?side8 A27.out).mono ?_); (case side1 => refine (rR (e := 3) (base := w.heap.size) (ok := fun k_ => ((((some k_ ≠ (.slice Ao17 t469.length co17 : Value).ownBlock ∧ some k_ ≠ (.slice Ao9 t458.length co9 : Value).ownBlock) ∧ some k_ ≠ (.slice Ao11 t461.length co11 : Value).ownBlock) ∧ some k_ ≠ (.slice Ao21 t474.length co21 : Value).ownBlock) ∧ some k_ ≠ (.slice Ao25 t477.length co25 : Value).ownBlock)) (n := t466.length) (c := co14) ?_).2.2; exact (zF HO468 BK481 (.slice Ao21 t474.length co21) (.slice Ao25 t477.length co25) 0 1)); (case side2 => exact (rR HO468.out).2.1); (case side3 => refine (rR (e := 3) (base := w.heap.size) (ok := fun k_ => ((((some k_ ≠ (.slice Ao14 t466.length co14 : Value).ownBlock ∧ some k_ ≠ (.slice Ao9 t458.length co9 : Value).ownBlock) ∧ some k_ ≠ (.slice Ao11 t461.length co11 : Value).ownBlock) ∧ some k_ ≠ (.slice Ao21 t474.length co21 : Value).ownBlock) ∧ some k_ ≠ (.slice Ao25 t477.length co25 : Value).ownBlock)) (n := t469.length) (c := co17) ?_).2.2; exact (zF HO471 BK481 (.slice Ao21 t474.length co21) (.slice Ao25 t477.length co25) 0 1)); (case side4 => exact (rR HO471.out).2.1); (case side5 => refine (rR (e := 3) (base := w.heap.size) (ok := fun k_ => ((((some k_ ≠ (.slice Ao25 t477.length co25 : Value).ownBlock ∧ some k_ ≠ (.slice Ao9 t458.length co9 : Value).ownBlock) ∧ some k_ ≠ (.slice Ao11 t461.length co11 : Value).ownBlock) ∧ some k_ ≠ (.slice Ao14 t466.length co14 : Value).ownBlock) ∧ some k_ ≠ (.slice Ao17 t469.length co17 : Value).ownBlock)) (n := t474.length) (c := co21) ?_).2.2; exact (zF HO476 BK481 (.slice Ao21 t474.length co21) (.slice Ao25 t477.length co25) 0 1)); (case side6 => exact (rR HO476.out).2.1); (case side7 => refine (rR (e := 3) (base := w.heap.size) (ok := fun k_ => ((((some k_ ≠ (.slice Ao21 t474.length co21 : Value).ownBlock ∧ some k_ ≠ (.slice Ao9 t458.length co9 : Value).ownBlock) ∧ some k_ ≠ (.slice Ao11 t461.length co11 : Value).ownBlock) ∧ some k_ ≠ (.slice Ao14 t466.length co14 : Value).ownBlock) ∧ some k_ ≠ (.slice Ao17 t469.length co17 : Value).ownBlock)) (n := t477.length) (c := co25) ?_).2.2; exact (zF HO479 BK481 (.slice Ao21 t474.length co21) (.slice Ao25 t477.length co25) 0 1)); (case side8 => exact (rR HO479.out).2.1); rintro e w34 ⟨rfl, hb⟩; replace HO460 := A0_ (Kd.Q_below (by (with_reducible repeat (first | apply Kd.Q_alloc | apply Kd.Q_drewN | apply Kd.Q_drew)); exact (Kd.Q_mono (Kd.Q_far (p := ⟨gb481, 1, none⟩) (Kd.Q_far (p := ⟨gb481, 0, none⟩) (Kd.Q_types HO460.out BK481.out (by decide)) (fun _ hk => hk.2) (.slice Ao21 t474.length co21)) (fun _ hk => hk.2) (.slice Ao25 t477.length co25)) (fun _ h_ => h_.1))) hb); replace HO463 := A0_ (rB (zF HO463 BK481 (.slice Ao21 t474.length co21) (.slice Ao25 t477.length co25) 0 1) hb); replace HO468 := A0_ (rB (zF HO468 BK481 (.slice Ao21 t474.length co21) (.slice Ao25 t477.length co25) 0 1) hb); replace HO471 := A0_ (rB (zF HO471 BK481 (.slice Ao21 t474.length co21) (.slice Ao25 t477.length co25) 0 1) hb); replace HO476 := A0_ (rB (zF HO476 BK481 (.slice Ao21 t474.length co21) (.slice Ao25 t477.length co25) 0 1) hb); replace HO479 := A0_ (rB (zF HO479 BK481 (.slice Ao21 t474.length co21) (.slice Ao25 t477.length co25) 0 1) hb); replace BK465 := A0_ (kB (g := gb465) (o := .cells #[.slice Ao9 t458.length co9, .slice Ao11 t461.length co11] 25 (0, 0)) (by (with_reducible repeat (first | refine kN ?_ _ | refine kD ?_ | refine kA ?_ _)); refine blk_far ?_ NB465_481.out _; (with_reducible repeat (first | refine kN ?_ _ | refine kD ?_ | refine kA ?_ _)); refine blk_far ?_ NB465_481.out _; (with_reducible repeat (first | refine kN ?_ _ | refine kD ?_ | refine kA ?_ _)); exact BK465.out) hb); replace BK473 := A0_ (kB (g := gb473) (o := .cells #[.slice Ao14 t466.length co14, .slice Ao17 t469.length co17] 25 (0, 0)) (by (with_reducible repeat (first | refine kN ?_ _ | refine kD ?_ | refine kA ?_ _)); refine blk_far ?_ NB473_481.out _; (with_reducible repeat (first | refine kN ?_ _ | refine kD ?_ | refine kA ?_ _)); refine blk_far ?_ NB473_481.out _; (with_reducible repeat (first | refine kN ?_ _ | refine kD ?_ | refine kA ?_ _)); exact BK473.out) hb); replace BK481 := A0_ (kB (g := gb481) (o := .cells #[.slice Ao21 t474.length co21, .slice Ao25 t477.length co25] 25 (0, 0)) (by (with_reducible repeat (first | refine kN ?_ _ | refine kD ?_ | refine kA ?_ _)); refine blk_put (cs := #[.slice Ao21 t474.length co21, .slice none 0 0]) ?_ 1 _ rfl; (with_reducible repeat (first | refine kN ?_ _ | refine kD ?_ | refine kA ?_ _)); refine blk_put (cs := #[.slice none 0 0, .slice none 0 0]) ?_ 0 _ rfl; (with_reducible repeat (first | refine kN ?_ _ | refine kD ?_ | refine kA ?_ _)); exact BK481.out) hb); replace HB := zB HB hb; (try clear hb)))
   go_meet
   case rel => exact ⟨_, (!t472), zt, H', zo, ⟨zmQ HO460 (fun _ hk => ⟨hk.1.1.1.1, ⟨hk.1.1.1.2, ⟨hk.1.1.2, ⟨hk.1.2, hk.2⟩⟩⟩⟩)⟩, ⟨zmR HO463 (fun _ hk => ⟨hk.1.1.1.1, ⟨hk.1.1.1.2, ⟨hk.1.1.2, ⟨hk.1.2, hk.2⟩⟩⟩⟩)⟩, ⟨Kd.Q_of_R (zmR HO468 (fun _ hk => ⟨hk.1.1.1.2, ⟨hk.1.1.2, ⟨hk.1.1.1.1, ⟨hk.1.2, hk.2⟩⟩⟩⟩))⟩, ⟨zmR HO471 (fun _ hk => ⟨hk.1.1.1.2, ⟨hk.1.1.2, ⟨hk.1.1.1.1, ⟨hk.1.2, hk.2⟩⟩⟩⟩)⟩, ⟨Kd.Q_of_R (zmR HO476 (fun _ hk => ⟨hk.1.1.1.2, ⟨hk.1.1.2, ⟨hk.1.2, ⟨hk.2, hk.1.1.1.1⟩⟩⟩⟩))⟩, ⟨zmR HO479 (fun _ hk => ⟨hk.1.1.1.2, ⟨hk.1.1.2, ⟨hk.1.2, ⟨hk.2, hk.1.1.1.1⟩⟩⟩⟩)⟩, ⟨zK_ BK465⟩, ⟨zK_ BK473⟩, ⟨zK_ BK481⟩, ⟨zB_ HB⟩⟩
  replace c28 := Bool.eq_false_iff.mpr c28; subst c28
  rw [if_neg (show ¬ (false = true) by decide)] at H
  have H' := A0_ H; clear H; have hnb35 := NB473_465.out; have hnc35 := NB465_473.out; have hnb36 := NB473_481.out; have hnc36 := NB481_473.out; have hcz37_0 := zc0 BK473; have hcz37_1 := zc1 BK473; have hfz37_0 := kF BK473.out 0; have hfz37_1 := kF BK473.out 1; have hnb38 := NB481_465.out; have hnc38 := NB465_481.out; have hcz39_0 := zc0 BK481; have hcz39_1 := zc1 BK481; have hfz39_0 := kF BK481.out 0; have hfz39_1 := kF BK481.out 1
  go_wp2_with (first | (go_at_call 10; (with_reducible refine (laws_sameMap.calls k _ _ t466 _ _ t469 _ _ t474 _ _ t477 false _ ?side1 ?side2 ?side3 ?side4 ?side5 ?side6 ?side7 ?side8 A27.out).mono ?_); (case side1 => refine (rR (e := 3) (base := w.heap.size) (ok := fun k_ => ((((some k_ ≠ (.slice Ao17 t469.length co17 : Value).ownBlock ∧ some k_ ≠ (.slice Ao9 t458.length co9 : Value).ownBlock) ∧ some k_ ≠ (.slice Ao11 t461.length co11 : Value).ownBlock) ∧ some k_ ≠ (.slice Ao21 t474.length co21 : Value).ownBlock) ∧ some k_ ≠ (.slice Ao25 t477.length co25 : Value).ownBlock)) (n := t466.length) (c := co14) ?_).2.2; exact (zF HO468 BK481 (.slice Ao21 t474.length co21) (.slice Ao25 t477.length co25) 0 1)); (case side2 => exact (rR HO468.out).2.1); (case side3 => refine (rR (e := 3) (base := w.heap.size) (ok := fun k_ => ((((some k_ ≠ (.slice Ao14 t466.length co14 : Value).ownBlock ∧ some k_ ≠ (.slice Ao9 t458.length co9 : Value).ownBlock) ∧ some k_ ≠ (.slice Ao11 t461.length co11 : Value).ownBlock) ∧ some k_ ≠ (.slice Ao21 t474.length co21 : Value).ownBlock) ∧ some k_ ≠ (.slice Ao25 t477.length co25 : Value).ownBlock)) (n := t469.length) (c := co17) ?_).2.2; exact (zF HO471 BK481 (.slice Ao21 t474.length co21) (.slice Ao25 t477.length co25) 0 1)); (case side4 => exact (rR HO471.out).2.1); (case side5 => refine (rR (e := 3) (base := w.heap.size) (ok := fun k_ => ((((some k_ ≠ (.slice Ao25 t477.length co25 : Value).ownBlock ∧ some k_ ≠ (.slice Ao9 t458.length co9 : Value).ownBlock) ∧ some k_ ≠ (.slice Ao11 t461.length co11 : Value).ownBlock) ∧ some k_ ≠ (.slice Ao14 t466.length co14 : Value).ownBlock) ∧ some k_ ≠ (.slice Ao17 t469.length co17 : Value).ownBlock)) (n := t474.length) (c := co21) ?_).2.2; exact (zF HO476 BK481 (.slice Ao21 t474.length co21) (.slice Ao25 t477.length co25) 0 1)); (case side6 => exact (rR HO476.out).2.1); (case side7 => refine (rR (e := 3) (base := w.heap.size) (ok := fun k_ => ((((some k_ ≠ (.slice Ao21 t474.length co21 : Value).ownBlock ∧ some k_ ≠ (.slice Ao9 t458.length co9 : Value).ownBlock) ∧ some k_ ≠ (.slice Ao11 t461.length co11 : Value).ownBlock) ∧ some k_ ≠ (.slice Ao14 t466.length co14 : Value).ownBlock) ∧ some k_ ≠ (.slice Ao17 t469.length co17 : Value).ownBlock)) (n := t477.length) (c := co25) ?_).2.2; exact (zF HO479 BK481 (.slice Ao21 t474.length co21) (.slice Ao25 t477.length co25) 0 1)); (case side8 => exact (rR HO479.out).2.1); rintro e w40 ⟨rfl, hb⟩; replace HO460 := A0_ (Kd.Q_below (by (with_reducible repeat (first | apply Kd.Q_alloc | apply Kd.Q_drewN | apply Kd.Q_drew)); exact (Kd.Q_mono (Kd.Q_far (p := ⟨gb481, 1, none⟩) (Kd.Q_far (p := ⟨gb481, 0, none⟩) (Kd.Q_types HO460.out BK481.out (by decide)) (fun _ hk => hk.2) (.slice Ao21 t474.length co21)) (fun _ hk => hk.2) (.slice Ao25 t477.length co25)) (fun _ h_ => h_.1))) hb); replace HO463 := A0_ (rB (zF HO463 BK481 (.slice Ao21 t474.length co21) (.slice Ao25 t477.length co25) 0 1) hb); replace HO468 := A0_ (rB (zF HO468 BK481 (.slice Ao21 t474.length co21) (.slice Ao25 t477.length co25) 0 1) hb); replace HO471 := A0_ (rB (zF HO471 BK481 (.slice Ao21 t474.length co21) (.slice Ao25 t477.length co25) 0 1) hb); replace HO476 := A0_ (rB (zF HO476 BK481 (.slice Ao21 t474.length co21) (.slice Ao25 t477.length co25) 0 1) hb); replace HO479 := A0_ (rB (zF HO479 BK481 (.slice Ao21 t474.length co21) (.slice Ao25 t477.length co25) 0 1) hb); replace BK465 := A0_ (kB (g := gb465) (o := .cells #[.slice Ao9 t458.length co9, .slice Ao11 t461.length co11] 25 (0, 0)) (by (with_reducible repeat (first | refine kN ?_ _ | refine kD ?_ | refine kA ?_ _)); refine blk_far ?_ NB465_481.out _; (with_reducible repeat (first | refine kN ?_ _ | refine kD ?_ | refine kA ?_ _)); refine blk_far ?_ NB465_481.out _; (with_reducible repeat (first | refine kN ?_ _ | refine kD ?_ | refine kA ?_ _)); exact BK465.out) hb); replace BK473 := A0_ (kB (g := gb473) (o := .cells #[.slice Ao14 t466.length co14, .slice Ao17 t469.length co17] 25 (0, 0)) (by (with_reducible repeat (first | refine kN ?_ _ | refine kD ?_ | refine kA ?_ _)); refine blk_far ?_ NB473_481.out _; (with_reducible repeat (first | refine kN ?_ _ | refine kD ?_ | refine kA ?_ _)); refine blk_far ?_ NB473_481.out _; (with_reducible repeat (first | refine kN ?_ _ | refine kD ?_ | refine kA ?_ _)); exact BK473.out) hb); replace BK481 := A0_ (kB (g := gb481) (o := .cells #[.slice Ao21 t474.length co21, .slice Ao25 t477.length co25] 25 (0, 0)) (by (with_reducible repeat (first | refine kN ?_ _ | refine kD ?_ | refine kA ?_ _)); refine blk_put (cs := #[.slice Ao21 t474.length co21, .slice none 0 0]) ?_ 1 _ rfl; (with_reducible repeat (first | refine kN ?_ _ | refine kD ?_ | refine kA ?_ _)); refine blk_put (cs := #[.slice none 0 0, .slice none 0 0]) ?_ 0 _ rfl; (with_reducible repeat (first | refine kN ?_ _ | refine kD ?_ | refine kA ?_ _)); exact BK481.out) hb); replace HB := zB HB hb; (try clear hb)))
  go_meet
  case rel => exact ⟨_, (true), zt, H', zo, ⟨zmQ HO460 (fun _ hk => ⟨hk.1.1.1.1, ⟨hk.1.1.1.2, ⟨hk.1.1.2, ⟨hk.1.2, hk.2⟩⟩⟩⟩)⟩, ⟨zmR HO463 (fun _ hk => ⟨hk.1.1.1.1, ⟨hk.1.1.1.2, ⟨hk.1.1.2, ⟨hk.1.2, hk.2⟩⟩⟩⟩)⟩, ⟨Kd.Q_of_R (zmR HO468 (fun _ hk => ⟨hk.1.1.1.2, ⟨hk.1.1.2, ⟨hk.1.1.1.1, ⟨hk.1.2, hk.2⟩⟩⟩⟩))⟩, ⟨zmR HO471 (fun _ hk => ⟨hk.1.1.1.2, ⟨hk.1.1.2, ⟨hk.1.1.1.1, ⟨hk.1.2, hk.2⟩⟩⟩⟩)⟩, ⟨Kd.Q_of_R (zmR HO476 (fun _ hk => ⟨hk.1.1.1.2, ⟨hk.1.1.2, ⟨hk.1.2, ⟨hk.2, hk.1.1.1.1⟩⟩⟩⟩))⟩, ⟨zmR HO479 (fun _ hk => ⟨hk.1.1.1.2, ⟨hk.1.1.2, ⟨hk.1.2, ⟨hk.2, hk.1.1.1.1⟩⟩⟩⟩)⟩, ⟨zK_ BK465⟩, ⟨zK_ BK473⟩, ⟨zK_ BK481⟩, ⟨zB_ HB⟩⟩
 case rest =>
  clear HC6; (try clear c1); (try clear c2); (try clear c2b0); (try clear c2b1); (try clear p2); (try clear c3); (try clear c6); (try clear c15); (try clear c22); (try clear c23); (try clear c24); (try clear c25); (try clear c26); (try clear c26b0); (try clear c26b1); (try clear c26b2); (try clear c28); (try clear c29); (try clear c30); (try clear c32); (try clear c35); (try clear c36); (try clear c38); (try clear hcz10_0); (try clear hcz10_1); (try clear hcz16_0); (try clear hcz16_1); (try clear hcz18_0); (try clear hcz18_1); (try clear hcz24_0); (try clear hcz24_1); (try clear hcz31_0); (try clear hcz31_1); (try clear hcz33_0); (try clear hcz33_1); (try clear hcz37_0); (try clear hcz37_1); (try clear hcz39_0); (try clear hcz39_1); (try clear hfz10_0); (try clear hfz10_1); (try clear hfz16_0); (try clear hfz16_1); (try clear hfz18_0); (try clear hfz18_1); (try clear hfz24_0); (try clear hfz24_1); (try clear hfz31_0); (try clear hfz31_1); (try clear hfz33_0); (try clear hfz33_1); (try clear hfz37_0); (try clear hfz37_1); (try clear hfz39_0); (try clear hfz39_1); obtain ⟨kq, x41_5, rfl, HA, HJ5, HO_466000, HO_466001, HO_474000, HO_474001, HO_482000, HO_482001, BK465, BK473, BK481, HB⟩ := hcut
  cases kq with
  | zero => exact absurd HA.out (by simp [laws_FnExecuteForm.j0])
  | succ kj5 =>
   have H := HA.out; clear HA; simp only [laws_FnExecuteForm.j0] at H
   by_cases c41 : x41_5 = true
   ·subst c41
    rw [if_pos rfl] at H
    by_cases c42 : (t472 == t480) = true
    ·rw [if_pos c42] at H
     have c42b0 : (t472 == t480) = true := c42
     (try (have c42b1 : decide (t472 = t480) = true := by simpa using c42))
     (try (have c42b2 : (t472 == t480) = true := by simpa using c42))
     clear c42; obtain ⟨t483, A43, H⟩ := zbind H; obtain rfl := sI H; have hnb44 := NB473_465.out; have hnc44 := NB465_473.out; have hnb45 := NB473_481.out; have hnc45 := NB481_473.out; have hcz46_0 := zc0 BK473; have hcz46_1 := zc1 BK473; have hfz46_0 := kF BK473.out 0; have hfz46_1 := kF BK473.out 1; have hnb47 := NB481_465.out; have hnc47 := NB465_481.out; have hcz48_0 := zc0 BK481; have hcz48_1 := zc1 BK481; have hfz48_0 := kF BK481.out 0; have hfz48_1 := kF BK481.out 1
     go_wp2_with (first | (go_at_call 10; (with_reducible refine (laws_sameMap.calls kj5 _ _ t466 _ _ t469 _ _ t474 _ _ t477 t483 _ ?side1 ?side2 ?side3 ?side4 ?side5 ?side6 ?side7 ?side8 A43.out).mono ?_); (case side1 => exact zDQ HO_474000); (case side2 => exact (Kd.Q_reads' HO_474000.out).2.1); (case side3 => exact zD HO_474001); (case side4 => exact (rR HO_474001.out).2.1); (case side5 => exact zDQ HO_482000); (case side6 => exact (Kd.Q_reads' HO_482000.out).2.1); (case side7 => exact zD HO_482001); (case side8 => exact (rR HO_482001.out).2.1); rintro e w49 ⟨rfl, hb⟩; replace HO_466000 := A0_ (Kd.Q_below (zQ_ HO_466000) hb); replace HO_466001 := zR HO_466001 hb; replace HO_474000 := A0_ (Kd.Q_below (zQ_ HO_474000) hb); replace HO_474001 := zR HO_474001 hb; replace HO_482000 := A0_ (Kd.Q_below (zQ_ HO_482000) hb); replace HO_482001 := zR HO_482001 hb; replace BK465 := zK BK465 hb; replace BK473 := zK BK473 hb; replace BK481 := zK BK481 hb; replace HB := zB HB hb; (try clear hb)))
     go_ret
     exact ⟨by first | rfl | (simp [*] <;> rfl), zB_ HB⟩
    rw [if_neg c42] at H
    have c42b0 : (t472 == t480) = false := by simpa using c42
    (try (have c42b1 : decide (t472 = t480) = false := by simpa using c42))
    (try (have c42b2 : (t472 == t480) = false := by simpa using c42))
    (try (have c42b3 : ¬ (t472 = t480) := by simpa using c42))
    clear c42; obtain rfl := sI H
    go_wp2
    go_ret
    exact ⟨by first | rfl | (simp [*] <;> rfl), zB_ HB⟩
   replace c41 := Bool.eq_false_iff.mpr c41; subst c41
   rw [if_neg (show ¬ (false = true) by decide)] at H
   obtain ⟨t484, A50, H⟩ := zbind H
   by_cases c51 : t484.size + 5 ≤ 9223372036854775807
   ·rw [if_pos c51] at H
    have c51b0 := eq_true c51; have c51b1 := dT c51
    try have c51b2 : (9223372036854775807 < t484.size + 5) = False := eq_false (Nat.not_lt.2 c51)
    obtain ⟨zs52, hzs52⟩ : ∃ j_ : ByteArray, (t484 ++ (⟨#[102, 111, 114, 109, 32]⟩ : ByteArray)) = j_ := ⟨_, rfl⟩
    replace H : ((laws_digits.f kj5 t464).bind fun t485 => (if zs52.size + t485.size ≤ 9223372036854775807 then (if (zs52 ++ t485).size + 6 ≤ 9223372036854775807 then ((impl_Execute.f kj5 ((zs52 ++ t485) ++ (⟨#[10, 115, 104, 111, 119, 10]⟩ : ByteArray))).bind fun t486 => ((laws_shown.f kj5 t466 t469).bind fun t487 => (if 6 + t487.size ≤ 9223372036854775807 then ((laws_endLine.f kj5 (t458.length : Int)).bind fun t488 => (if ((⟨#[111, 107, 10, 111, 107, 10]⟩ : ByteArray) ++ t487).size + t488.size ≤ 9223372036854775807 then (some (t486.toList == (((⟨#[111, 107, 10, 111, 107, 10]⟩ : ByteArray) ++ t487) ++ t488).toList)) else (none))) else (none)))) else (none)) else (none))) = some r := by first | (rw [hzs52] at H; exact H) | (simp only [hzs52] at H ⊢; exact H) | exact H
    (try rw [hzs52] at A50)
    obtain ⟨t485, A53, H⟩ := zbind H
    by_cases c54 : zs52.size + t485.size ≤ 9223372036854775807
    ·rw [if_pos c54] at H
     have c54b0 := eq_true c54; have c54b1 := dT c54
     try have c54b2 : (9223372036854775807 < zs52.size + t485.size) = False := eq_false (Nat.not_lt.2 c54)
     obtain ⟨zs55, hzs55⟩ : ∃ j_ : ByteArray, (zs52 ++ t485) = j_ := ⟨_, rfl⟩
     replace H : (if zs55.size + 6 ≤ 9223372036854775807 then ((impl_Execute.f kj5 (zs55 ++ (⟨#[10, 115, 104, 111, 119, 10]⟩ : ByteArray))).bind fun t486 => ((laws_shown.f kj5 t466 t469).bind fun t487 => (if 6 + t487.size ≤ 9223372036854775807 then ((laws_endLine.f kj5 (t458.length : Int)).bind fun t488 => (if ((⟨#[111, 107, 10, 111, 107, 10]⟩ : ByteArray) ++ t487).size + t488.size ≤ 9223372036854775807 then (some (t486.toList == (((⟨#[111, 107, 10, 111, 107, 10]⟩ : ByteArray) ++ t487) ++ t488).toList)) else (none))) else (none)))) else (none)) = some r := by first | (rw [hzs55] at H; exact H) | (simp only [hzs55] at H ⊢; exact H) | exact H
     (try rw [hzs55] at A50)
     (try rw [hzs55] at A53)
     by_cases c56 : zs55.size + 6 ≤ 9223372036854775807
     ·rw [if_pos c56] at H
      have c56b0 := eq_true c56; have c56b1 := dT c56
      try have c56b2 : (9223372036854775807 < zs55.size + 6) = False := eq_false (Nat.not_lt.2 c56)
      obtain ⟨zs57, hzs57⟩ : ∃ j_ : ByteArray, (zs55 ++ (⟨#[10, 115, 104, 111, 119, 10]⟩ : ByteArray)) = j_ := ⟨_, rfl⟩
      replace H : ((impl_Execute.f kj5 zs57).bind fun t486 => ((laws_shown.f kj5 t466 t469).bind fun t487 => (if 6 + t487.size ≤ 9223372036854775807 then ((laws_endLine.f kj5 (t458.length : Int)).bind fun t488 => (if ((⟨#[111, 107, 10, 111, 107, 10]⟩ : ByteArray) ++ t487).size + t488.size ≤ 9223372036854775807 then (some (t486.toList == (((⟨#[111, 107, 10, 111, 107, 10]⟩ : ByteArray) ++ t487) ++ t488).toList)) else (none))) else (none)))) = some r := by first | (rw [hzs57] at H; exact H) | (simp only [hzs57] at H ⊢; exact H) | exact H
      (try rw [hzs57] at A50)
      (try rw [hzs57] at A53)
      obtain ⟨t486, A58, H⟩ := zbind H; obtain ⟨t487, A59, H⟩ := zbind H
      by_cases c60 : 6 + t487.size ≤ 9223372036854775807
      ·rw [if_pos c60] at H
       have c60b0 := eq_true c60; have c60b1 := dT c60
       try have c60b2 : (9223372036854775807 < 6 + t487.size) = False := eq_false (Nat.not_lt.2 c60)
       obtain ⟨zs61, hzs61⟩ : ∃ j_ : ByteArray, ((⟨#[111, 107, 10, 111, 107, 10]⟩ : ByteArray) ++ t487) = j_ := ⟨_, rfl⟩
       replace H : ((laws_endLine.f kj5 (t458.length : Int)).bind fun t488 => (if zs61.size + t488.size ≤ 9223372036854775807 then (some (t486.toList == (zs61 ++ t488).toList)) else (none))) = some r := by first | (rw [hzs61] at H; exact H) | (simp only [hzs61] at H ⊢; exact H) | exact H
       (try rw [hzs61] at A50)
       (try rw [hzs61] at A53)
       (try rw [hzs61] at A58)
       (try rw [hzs61] at A59)
       obtain ⟨t488, A62, H⟩ := zbind H
       by_cases c63 : zs61.size + t488.size ≤ 9223372036854775807
       ·rw [if_pos c63] at H
        have c63b0 := eq_true c63; have c63b1 := dT c63
        try have c63b2 : (9223372036854775807 < zs61.size + t488.size) = False := eq_false (Nat.not_lt.2 c63)
        obtain ⟨zs64, hzs64⟩ : ∃ j_ : ByteArray, (zs61 ++ t488) = j_ := ⟨_, rfl⟩
        replace H : (some (t486.toList == zs64.toList)) = some r := by first | (rw [hzs64] at H; exact H) | (simp only [hzs64] at H ⊢; exact H) | exact H
        (try rw [hzs64] at A50)
        (try rw [hzs64] at A53)
        (try rw [hzs64] at A58)
        (try rw [hzs64] at A59)
        (try rw [hzs64] at A62)
        obtain rfl := sI H
        try go_wp2
        replace HO_466000 := A0_ (Kd.Q_drew HO_466000.out)
        replace HO_466001 := A0_ (rD HO_466001.out)
        replace HO_474000 := A0_ (Kd.Q_drew HO_474000.out)
        replace HO_474001 := A0_ (rD HO_474001.out)
        replace HO_482000 := A0_ (Kd.Q_drew HO_482000.out)
        replace HO_482001 := A0_ (rD HO_482001.out)
        replace BK465 := A0_ (kD BK465.out)
        replace BK473 := A0_ (kD BK473.out)
        replace BK481 := A0_ (kD BK481.out)
        replace HB := A0_ (bD HB.out)
        refine start_ (n := 18) (S := fun w' => w'.cell? ⟨gb465, 0, none⟩ = some (.slice Ao9 t458.length co9) ∧ w'.cell? ⟨gb465, 1, none⟩ = some (.slice Ao11 t461.length co11) ∧ w'.cell? ⟨gb473, 0, none⟩ = some (.slice Ao14 t466.length co14) ∧ w'.cell? ⟨gb473, 1, none⟩ = some (.slice Ao17 t469.length co17)) (ds := []) #[false, false, false, false, false, false, false, false, false, false, false, false, false, false, false, false, false, false] (by kernel_rfl) rfl rfl ⟨(kC BK465.out 0).trans rfl, (kC BK465.out 1).trans rfl, (kC BK473.out 0).trans rfl, (kC BK473.out 1).trans rfl⟩ (fun hHeld => ?_); refine with_tabW laws_FnExecuteForm.tab8 laws_FnExecuteForm.bits8 (fun HT_ HW_ => ?_)
        generalize wc.drew = w65 at HO_466000 HO_466001 HO_474000 HO_474001 HO_482000 HO_482001 BK465 BK473 BK481 HB hHeld ⊢
        refine zP 3 (some 53) #[false,false,false,true,false,false,false,false,false,false,false,false,false,false,false,false,false,false] ?_
        refine zP 11 (some 61) #[false,false,false,true,false,false,false,false,false,false,false,true,false,false,false,false,false,false] ?_
        refine take_ (i := 0) (N := some 50) (v := ?_) (a' := ?_) #[true, false, false, true, false, false, false, false, false, false, false, true, false, false, false, false, false, false] rfl rfl (take_ofW HT_.out HW_.out (by kernel_rfl)) (fun _ _ _ h => h) (Or.inl ⟨by rfl, ?_⟩) hHeld ?_ ?_
        rotate_left
        ·rintro w' ⟨s0, s1, s2, s3⟩
         go_simp
         with_reducible rfl
        rotate_left
        ·simp only [Act.put, List.setIfInBounds_toArray, List.set_cons_zero, List.set_cons_succ, i64_w, i32_w]
         rfl
        refine take_ (i := 8) (N := some 58) (v := ?_) (a' := ?_) #[true, false, false, true, false, false, false, false, true, false, false, true, false, false, false, false, false, false] rfl rfl (take_ofW HT_.out HW_.out (by kernel_rfl)) (fun _ _ _ h => h) (Or.inl ⟨by rfl, ?_⟩) hHeld ?_ ?_
        rotate_left
        ·rintro w' ⟨s0, s1, s2, s3⟩
         go_simp
         with_reducible rfl
        rotate_left
        ·simp only [Act.put, List.setIfInBounds_toArray, List.set_cons_zero, List.set_cons_succ, i64_w, i32_w]
         rfl
        refine take_ (i := 12) (N := some 62) (v := ?_) (a' := ?_) #[true, false, false, true, false, false, false, false, true, false, false, true, true, false, false, false, false, false] rfl rfl (take_ofW HT_.out HW_.out (by kernel_rfl)) (fun _ _ _ h => h) (Or.inl ⟨by rfl, ?_⟩) hHeld ?_ ?_
        rotate_left
        ·rintro w' ⟨s0, s1, s2, s3⟩
         go_simp
         with_reducible rfl
        rotate_left
        ·simp only [Act.put, List.setIfInBounds_toArray, List.set_cons_zero, List.set_cons_succ, i64_w, i32_w]
         rfl
        refine zP 13 (some 63) #[true,false,false,true,false,false,false,false,true,false,false,true,true,true,false,false,false,false] ?_
        refine one_ (i := 1) (N := some 51) #[true, true, false, true, false, false, false, false, true, false, false, true, true, true, false, false, false, false] rfl rfl (one_of HT_.out (by kernel_rfl)) (by decide) (fun K hK => ?_)
        refine goes_ Tryz.func12 (by kernel_rfl) rfl #[.agg #[.slice Ao9 t458.length co9, .slice Ao11 t461.length co11]] (by rfl) rfl rfl (by (try simp only [List.map_toArray, List.map_cons, List.map_nil]); first | done | rfl | (simp only [List.length_drop, List.length_take]; rfl)) ?_
        with_reducible refine (laws_mapLine.calls kj5 _ _ t458 _ _ t461 t484 _ ?side1 ?side2 ?side3 ?side4 A50.out).mono ?_
        (case side1 => exact zDQ HO_466000)
        (case side2 => exact (Kd.Q_reads' HO_466000.out).2.1)
        (case side3 => exact zD HO_466001)
        (case side4 => exact (rR HO_466001.out).2.1)
        rintro e w66 ⟨rfl, hb⟩
        refine ⟨_, rfl, ?_⟩
        replace HO_466000 := A0_ (Kd.Q_below (zQ_ HO_466000) hb)
        replace HO_466001 := zR HO_466001 hb
        replace HO_474000 := A0_ (Kd.Q_below (zQ_ HO_474000) hb)
        replace HO_474001 := zR HO_474001 hb
        replace HO_482000 := A0_ (Kd.Q_below (zQ_ HO_482000) hb)
        replace HO_482001 := zR HO_482001 hb; replace BK465 := zK BK465 hb; replace BK473 := zK BK473 hb; replace BK481 := zK BK481 hb; replace HB := zB HB hb; (try clear hb); (try clear hb2); (try clear hk); (try clear hi)
        refine hK.out _ _ ⟨(kC BK465.out 0).trans rfl, (kC BK465.out 1).trans rfl, (kC BK473.out 0).trans rfl, (kC BK473.out 1).trans rfl⟩ (fun hHeld => ?_)
        clear hK K
        refine norm_ (a' := ?_) ?_ ?_
        rotate_left
        ·show Act.put _ (some 51) _ = _
         simp only [Act.put, List.setIfInBounds_toArray, List.set_cons_zero, List.set_cons_succ, i64_w, i32_w]
         rfl
        refine zP 2 (some 52) #[true,true,true,true,false,false,false,false,true,false,false,true,true,true,false,false,false,false] ?_
        refine one_ (i := 4) (N := some 54) #[true, true, true, true, true, false, false, false, true, false, false, true, true, true, false, false, false, false] rfl rfl (one_of HT_.out (by kernel_rfl)) (by decide) (fun K hK => ?_)
        refine goes_ Tryz.func22 (by kernel_rfl) rfl #[.int .i64 t464] (by rfl) rfl rfl (by (try simp only [List.map_toArray, List.map_cons, List.map_nil]); first | done | rfl | (simp only [List.length_drop, List.length_take]; rfl)) ?_
        with_reducible refine (laws_digits.calls kj5 t464 t485 _ A53.out).mono ?_
        rintro e w67 ⟨rfl, hb⟩
        refine ⟨_, rfl, ?_⟩
        replace HO_466000 := A0_ (Kd.Q_below (zQ_ HO_466000) hb)
        replace HO_466001 := zR HO_466001 hb
        replace HO_474000 := A0_ (Kd.Q_below (zQ_ HO_474000) hb)
        replace HO_474001 := zR HO_474001 hb
        replace HO_482000 := A0_ (Kd.Q_below (zQ_ HO_482000) hb)
        replace HO_482001 := zR HO_482001 hb; replace BK465 := zK BK465 hb; replace BK473 := zK BK473 hb; replace BK481 := zK BK481 hb; replace HB := zB HB hb; (try clear hb); (try clear hb2); (try clear hk); (try clear hi)
        refine hK.out _ _ ⟨(kC BK465.out 0).trans rfl, (kC BK465.out 1).trans rfl, (kC BK473.out 0).trans rfl, (kC BK473.out 1).trans rfl⟩ (fun hHeld => ?_)
        clear hK K
        refine norm_ (a' := ?_) ?_ ?_
        rotate_left
        ·show Act.put _ (some 54) _ = _
         simp only [Act.put, List.setIfInBounds_toArray, List.set_cons_zero, List.set_cons_succ, i64_w, i32_w]
         rfl
        refine zP 5 (some 55) #[true,true,true,true,true,true,false,false,true,false,false,true,true,true,false,false,false,false] ?_
        refine zP 6 (some 56) #[true,true,true,true,true,true,true,false,true,false,false,true,true,true,false,false,false,false] ?_
        refine one_ (i := 7) (N := some 57) #[true, true, true, true, true, true, true, true, true, false, false, true, true, true, false, false, false, false] rfl rfl (one_of HT_.out (by kernel_rfl)) (by decide) (fun K hK => ?_)
        refine goes_ Tryz.func11 (by kernel_rfl) rfl #[.string zs57] (by rfl) rfl rfl (by (try simp only [List.map_toArray, List.map_cons, List.map_nil]); first | done | rfl | (simp only [List.length_drop, List.length_take]; rfl)) ?_
        with_reducible refine (impl_Execute.calls kj5 zs57 t486 _ A58.out).mono ?_
        rintro e w68 ⟨rfl, hb⟩
        refine ⟨_, rfl, ?_⟩
        replace HO_466000 := A0_ (Kd.Q_below (zQ_ HO_466000) hb)
        replace HO_466001 := zR HO_466001 hb
        replace HO_474000 := A0_ (Kd.Q_below (zQ_ HO_474000) hb)
        replace HO_474001 := zR HO_474001 hb
        replace HO_482000 := A0_ (Kd.Q_below (zQ_ HO_482000) hb)
        replace HO_482001 := zR HO_482001 hb; replace BK465 := zK BK465 hb; replace BK473 := zK BK473 hb; replace BK481 := zK BK481 hb; replace HB := zB HB hb; (try clear hb); (try clear hb2); (try clear hk); (try clear hi)
        refine hK.out _ _ ⟨(kC BK465.out 0).trans rfl, (kC BK465.out 1).trans rfl, (kC BK473.out 0).trans rfl, (kC BK473.out 1).trans rfl⟩ (fun hHeld => ?_)
        clear hK K
        refine norm_ (a' := ?_) ?_ ?_
        rotate_left
        ·show Act.put _ (some 57) _ = _
         simp only [Act.put, List.setIfInBounds_toArray, List.set_cons_zero, List.set_cons_succ, i64_w, i32_w]
         rfl
        refine one_ (i := 9) (N := some 59) #[true, true, true, true, true, true, true, true, true, true, false, true, true, true, false, false, false, false] rfl rfl (one_of HT_.out (by kernel_rfl)) (by decide) (fun K hK => ?_)
        refine goes_ Tryz.func13 (by kernel_rfl) rfl #[.agg #[.slice Ao14 t466.length co14, .slice Ao17 t469.length co17]] (by rfl) rfl rfl (by (try simp only [List.map_toArray, List.map_cons, List.map_nil]); first | done | rfl | (simp only [List.length_drop, List.length_take]; rfl)) ?_
        with_reducible refine (laws_shown.calls kj5 _ _ t466 _ _ t469 t487 _ ?side1 ?side2 ?side3 ?side4 A59.out).mono ?_
        (case side1 => exact zDQ HO_474000)
        (case side2 => exact (Kd.Q_reads' HO_474000.out).2.1)
        (case side3 => exact zD HO_474001)
        (case side4 => exact (rR HO_474001.out).2.1)
        rintro e w69 ⟨rfl, hb⟩
        refine ⟨_, rfl, ?_⟩
        replace HO_466000 := A0_ (Kd.Q_below (zQ_ HO_466000) hb)
        replace HO_466001 := zR HO_466001 hb
        replace HO_474000 := A0_ (Kd.Q_below (zQ_ HO_474000) hb)
        replace HO_474001 := zR HO_474001 hb
        replace HO_482000 := A0_ (Kd.Q_below (zQ_ HO_482000) hb)
        replace HO_482001 := zR HO_482001 hb; replace BK465 := zK BK465 hb; replace BK473 := zK BK473 hb; replace BK481 := zK BK481 hb; replace HB := zB HB hb; (try clear hb); (try clear hb2); (try clear hk); (try clear hi)
        refine hK.out _ _ ⟨(kC BK465.out 0).trans rfl, (kC BK465.out 1).trans rfl, (kC BK473.out 0).trans rfl, (kC BK473.out 1).trans rfl⟩ (fun hHeld => ?_)
        clear hK K
        refine norm_ (a' := ?_) ?_ ?_
        rotate_left
        ·show Act.put _ (some 59) _ = _
         simp only [Act.put, List.setIfInBounds_toArray, List.set_cons_zero, List.set_cons_succ, i64_w, i32_w]
         rfl
        refine zP 10 (some 60) #[true,true,true,true,true,true,true,true,true,true,true,true,true,true,false,false,false,false] ?_
        refine one_ (i := 14) (N := some 64) #[true, true, true, true, true, true, true, true, true, true, true, true, true, true, true, false, false, false] rfl rfl (one_of HT_.out (by kernel_rfl)) (by decide) (fun K hK => ?_)
        refine goes_ Tryz.func14 (by kernel_rfl) rfl #[.int .i64 (t458.length : Int)] (by rfl) rfl rfl (by (try simp only [List.map_toArray, List.map_cons, List.map_nil]); first | done | rfl | (simp only [List.length_drop, List.length_take]; rfl)) ?_
        with_reducible refine (laws_endLine.calls kj5 (t458.length : Int) t488 _ A62.out).mono ?_
        rintro e w70 ⟨rfl, hb⟩
        refine ⟨_, rfl, ?_⟩
        replace HO_466000 := A0_ (Kd.Q_below (zQ_ HO_466000) hb)
        replace HO_466001 := zR HO_466001 hb
        replace HO_474000 := A0_ (Kd.Q_below (zQ_ HO_474000) hb)
        replace HO_474001 := zR HO_474001 hb
        replace HO_482000 := A0_ (Kd.Q_below (zQ_ HO_482000) hb)
        replace HO_482001 := zR HO_482001 hb; replace BK465 := zK BK465 hb; replace BK473 := zK BK473 hb; replace BK481 := zK BK481 hb; replace HB := zB HB hb; (try clear hb); (try clear hb2); (try clear hk); (try clear hi)
        refine hK.out _ _ ⟨(kC BK465.out 0).trans rfl, (kC BK465.out 1).trans rfl, (kC BK473.out 0).trans rfl, (kC BK473.out 1).trans rfl⟩ (fun hHeld => ?_)
        clear hK K
        refine norm_ (a' := ?_) ?_ ?_
        rotate_left
        ·show Act.put _ (some 64) _ = _
         simp only [Act.put, List.setIfInBounds_toArray, List.set_cons_zero, List.set_cons_succ, i64_w, i32_w]
         rfl
        refine zP 15 (some 65) #[true,true,true,true,true,true,true,true,true,true,true,true,true,true,true,true,false,false] ?_
        refine zP 16 (some 66) #[true,true,true,true,true,true,true,true,true,true,true,true,true,true,true,true,true,false] ?_
        refine zP 17 (some 2) #[true,true,true,true,true,true,true,true,true,true,true,true,true,true,true,true,true,true] ?_
        refine done_ (done_of HT_.out (by kernel_rfl)) ?_
        try go_wp2
        go_ret
        exact ⟨by first | rfl | (simp [*] <;> rfl), zB_ HB⟩
       rw [if_neg c63] at H
       exact absurd H (by simp)
      rw [if_neg c60] at H
      exact absurd H (by simp)
     rw [if_neg c56] at H
     exact absurd H (by simp)
    rw [if_neg c54] at H
    exact absurd H (by simp)
   rw [if_neg c51] at H
   exact absurd H (by simp)

/-- THE ONE PURE STATEMENT of laws_FnExecuteForm: yours. -/
def laws_FnExecuteForm.Pure : Prop := ∀ (l0 : List Int), l0.length ≤ maxLen → l0.length * 1 ≤ 140737488351232 → (∀ x ∈ l0, (Lit.int .u8 x).wf = true) → ∃ k, laws_FnExecuteForm.f k l0 = some true
theorem laws_FnExecuteForm.walk (P : laws_FnExecuteForm.Pure) (a0 : Option Addr) (len0 cap0 : Nat) (z0 : List Int) (w : World) (w0 : (a0 = none ∧ len0 = 0 ∧ cap0 = 0 ∧ z0 = []) ∨ ∃ x, a0 = some x ∧ len0 ≤ cap0 ∧ cap0 ≤ maxLen ∧ z0.length = cap0 ∧ (∀ i, i < z0.length → w.cell? (x.add i) = some (.int .u8 (z0.getD i 0))) ∧ ∀ n ∈ z0, (Lit.int .u8 n).wf = true) (y0 : len0 * 1 ≤ 140737488351232) :
  Calls Tryz.prog 6 #[.slice a0 len0 cap0] w fun e w' => e = .returned (.bool true) ∧ Below w.heap.size w w' := by
 obtain ⟨l0, rfl, hr0, hm0, hw0, hc0⟩ := ReadsInt.ofRowC w0; obtain ⟨k, h⟩ := P l0 hm0 y0 hw0
 refine (laws_FnExecuteForm.calls k _ _ l0 true w (Kd.C_of_reads (d := (0 : Int)) (h1 := fun _ => rfl) hr0) hc0 h).mono ?_
 rintro e w' ⟨rfl, hd⟩
 exact ⟨rfl, hd⟩

end Go.Proofs.YtikkokflcgcnbaaGreatDoor.PFnExecuteForm
