-- Made by a program of this session (wip/tools) out of the loaded program; not trusted: Lean checks it.
import Derived.Test.YtjebcgbmlbemcaaGreatDoorPFnExecuteTuttex0
import Derived.Test.YtjebcgbmlbemcaaGreatDoorPFnExecuteTuttex4
import Derived.Test.YtjebcgbmlbemcaaGreatDoorPFnExecuteTuttex6
import Derived.Test.YtjebcgbmlbemcaaGreatDoorPFnExecuteTuttex7
import Derived.Test.YtjebcgbmlbemcaaGreatDoorPFnExecuteTuttex8
import Derived.Test.YtjebcgbmlbemcaaGreatDoorPFnExecuteTuttex10
import Derived.Test.YtjebcgbmlbemcaaGreatDoorPFnExecuteTuttex11
-- packed
namespace Go.Proofs.YtjebcgbmlbemcaaGreatDoor.PFnExecuteTutte
open Go.RowKit Go.Proofs.YtjebcgbmlbemcaaGreatDoorW.PrintWords Go.Proofs.YtjebcgbmlbemcaaGreatDoorW.PrintLast Go.Proofs.YtjebcgbmlbemcaaGreatDoorW.PrintMore
attribute [local go_sem] max2_int min2_int max_two min_two max_three min_three max_four min_four   -- for this text's walks alone
set_option linter.unusedVariables false
set_option linter.unusedSimpArgs false

/-! ### laws_FnExecuteTutte: function 3 -/
def laws_FnExecuteTutte.j0 : Nat → Bool → Bool → Bool → List Int → List Int → List Int → List Int → List Int → List Int → Option (Bool)
  | 0, _, _, _, _, _, _, _, _, _ => none
  | k + 1, x5, x7, x35, x396000, x396001, x404000, x404001, x412000, x412001 => if x35 = true then (if (x5 == x7) = true then ((laws_sameMap.f k x404000 x404001 x412000 x412001).bind fun t413 => (some t413)) else (some false)) else ((laws_mapLine.f k x396000 x396001).bind fun t414 => (if t414.size + 11 ≤ 9223372036854775807 then ((impl_Execute.f k (t414 ++ (⟨#[116, 117, 116, 116, 101, 10, 115, 104, 111, 119, 10]⟩ : ByteArray))).bind fun t415 => ((laws_shown.f k x404000 x404001).bind fun t416 => (if 6 + t416.size ≤ 9223372036854775807 then ((laws_endLine.f k (x404000.length : Int)).bind fun t417 => (if ((⟨#[111, 107, 10, 111, 107, 10]⟩ : ByteArray) ++ t416).size + t417.size ≤ 9223372036854775807 then (some (t415.toList == (((⟨#[111, 107, 10, 111, 107, 10]⟩ : ByteArray) ++ t416) ++ t417).toList)) else (none))) else (none)))) else (none)))
def laws_FnExecuteTutte.f (k : Nat) (l0 : List Int) : Option (Bool) := if (l0.length : Int) > 1048576 then (some true) else ((spec_DrawTutteQuad.f k l0).bind fun bt389 => ((impl_TutteQuad.f k bt389.1 bt389.2).bind fun bt396 => ((spec_TutteQuad.f k bt389.1 bt389.2).bind fun bt404 => (if (bt396.2.2 != bt404.2.2) = true then (laws_FnExecuteTutte.j0 k bt396.2.2 bt404.2.2 true bt389.1 bt389.2 bt396.1 bt396.2.1 bt404.1 bt404.2.1) else ((laws_sameMap.f k bt396.1 bt396.2.1 bt404.1 bt404.2.1).bind fun t412 => (if t412 = true then (laws_FnExecuteTutte.j0 k bt396.2.2 bt404.2.2 (!bt396.2.2) bt389.1 bt389.2 bt396.1 bt396.2.1 bt404.1 bt404.2.1) else (laws_FnExecuteTutte.j0 k bt396.2.2 bt404.2.2 true bt389.1 bt389.2 bt396.1 bt396.2.1 bt404.1 bt404.2.1)))))))
def laws_FnExecuteTutte.T8 : Bool × List (List Nat × List Nat) := (true, [([], []), ([0], [0]), ([1], [1]), ([2, 1], [2]), ([], []), ([4, 3], [4]), ([5], [5]), ([], []), ([7], [7]), ([8], [8]), ([9, 5], [9]), ([6, 10], [6, 10]), ([3, 11], [3, 11]), ([12, 10, 0, 1, 2, 3, 4, 5, 6, 7, 8, 9, 10, 11, 12], [12])])
def laws_FnExecuteTutte.B8 : List Nat := [0, 1, 3, 7, 0, 31, 63, 0, 128, 384, 959, 2047, 4095, 8191]
theorem laws_FnExecuteTutte.tab8 : rtab .any (opsOf Tryz.f3 8) = laws_FnExecuteTutte.T8 := by kernel_rfl
theorem laws_FnExecuteTutte.bits8 : waitsOk laws_FnExecuteTutte.T8.2 laws_FnExecuteTutte.B8 = true := by kernel_rfl
set_option maxHeartbeats 8000000 in
set_option maxRecDepth 100000 in
theorem laws_FnExecuteTutte.calls (k : Nat) (A0 : Option Addr) (c0 : Nat) (l0 : List Int) (r : Bool) (w : World) (hr0 : Kd.C (Kd.int .u8) w A0 l0.length l0) (hc0 : l0.length ≤ c0) (h : laws_FnExecuteTutte.f k l0 = some r) :
    Calls Tryz.prog 3 #[.slice A0 l0.length c0] w fun e w' => e = .returned (.bool r) ∧ Below w.heap.size w w' := by
 have hu25 := Tryz.underlying25; have HR0 := A0_ hr0; have HC0 := A0_ hc0; clear hr0 hc0
 have HB := A0_ (Below.refl w.heap.size w)
 have H : (if (l0.length : Int) > 1048576 then (some true) else ((spec_DrawTutteQuad.f k l0).bind fun bt389 => ((impl_TutteQuad.f k bt389.1 bt389.2).bind fun bt396 => ((spec_TutteQuad.f k bt389.1 bt389.2).bind fun bt404 => (if (bt396.2.2 != bt404.2.2) = true then (laws_FnExecuteTutte.j0 k bt396.2.2 bt404.2.2 true bt389.1 bt389.2 bt396.1 bt396.2.1 bt404.1 bt404.2.1) else ((laws_sameMap.f k bt396.1 bt396.2.1 bt404.1 bt404.2.1).bind fun t412 => (if t412 = true then (laws_FnExecuteTutte.j0 k bt396.2.2 bt404.2.2 (!bt396.2.2) bt389.1 bt389.2 bt396.1 bt396.2.1 bt404.1 bt404.2.1) else (laws_FnExecuteTutte.j0 k bt396.2.2 bt404.2.2 true bt389.1 bt389.2 bt396.1 bt396.2.1 bt404.1 bt404.2.1)))))))) = some r := h
 clear h
 by_cases c2 : (l0.length : Int) > 1048576
 ·rw [if_pos c2] at H
  have c2b0 : decide (1048576 < (l0.length : Int)) = true := dT c2
  have c2b1 : decide (1048576 < l0.length) = true := dT (by omega)
  clear c2; obtain rfl := sI H
  go_enter Tryz.func3, Tryz.ntmps3
  go_wp2
  go_ret
  exact ⟨by first | rfl | (simp [*] <;> rfl), zB_ HB⟩
 rw [if_neg c2] at H
 have c2b0 : decide (1048576 < (l0.length : Int)) = false := dF c2
 have c2b1 : decide (1048576 < l0.length) = false := dF (by omega)
 clear c2; obtain ⟨⟨t389, t392⟩, A3, H⟩ := zbind H; dsimp only at H; obtain ⟨⟨t396, t399, t402⟩, A4, H⟩ := zbind H; dsimp only at H; obtain ⟨⟨t404, t407, t410⟩, A5, H⟩ := zbind H; dsimp only at H; have HC6 := A0_ H; clear H
 go_enter Tryz.func3, Tryz.ntmps3
 go_upto_region 6 with (first | ((with_reducible refine gC (f := 6) rfl ?_); refine zJ (some 12) Tryz.func6 #[.slice A0 l0.length c0] ?_; (with_reducible refine (spec_DrawTutteQuad.calls k _ _ l0 t389 t392 _ ?side1 ?side2 A3.out).mono ?_); (case side1 => repeat (first | exact HR0.out | (with_reducible refine cA ?_ _) | (with_reducible refine cN ?_ _) | (with_reducible refine cD ?_))); (case side2 => exact HC0.out); rintro e w7 ⟨v390, v393, rfl, ho0, ho1, hb⟩; refine ⟨_, rfl, ?_⟩; have HO391 := A0_ (Kd.Q_lower ho0 (bZ (zB_ HB))); have HO394 := A0_ (rL ho1 (bZ (zB_ HB))); replace HB := zB HB hb; (try clear hb); (try clear ho0); (try clear ho1)) | ((with_reducible refine gD (N := 3) rfl ?_); refine zX (N := 3) (cs := #[.slice none 0 0, .slice none 0 0]) (t := 25) ?_; intro gb395 hg w8 hbox hb; replace HO391 := A0_ (Kd.Q_below (zQ_ HO391) hb); replace HO394 := zR HO394 hb; have BK395 := A0_ (hbox); have GW395 := zG hg HB; have GE395 := zG hg HB; replace HB := zB HB hb; clear hb hbox hg; obtain ⟨Ao9, co9, eo9, _⟩ := Kd.Q_slice HO391.out; subst eo9; have hcz10_0 := zc0 BK395; have hcz10_1 := zc1 BK395; have hfz10_0 := kF BK395.out 0; have hfz10_1 := kF BK395.out 1; obtain ⟨Ao11, co11, eo11⟩ := rS HO394.out; subst eo11) | ((with_reducible refine gC (f := 7) rfl ?_); refine zJ (some 15) Tryz.func7 #[.agg #[.slice Ao9 t389.length co9, .slice Ao11 t392.length co11]] ?_; (with_reducible refine (impl_TutteQuad.calls k _ _ t389 _ _ t392 t396 t399 t402 _ ?side1 ?side2 ?side3 ?side4 A4.out).mono ?_); (case side1 => refine (Kd.Q_reads' (e := 3) (base := w.heap.size) (ok := fun k_ => some k_ ≠ (.slice Ao11 t392.length co11 : Value).ownBlock) (n := t389.length) (c := co9) ?_).2.2; exact (by (with_reducible repeat (first | apply Kd.Q_alloc | apply Kd.Q_drewN | apply Kd.Q_drew)); exact (Kd.Q_mono (Kd.Q_far (p := ⟨gb395, 1, none⟩) (Kd.Q_far (p := ⟨gb395, 0, none⟩) (Kd.Q_types HO391.out BK395.out (by decide)) (fun _ hk => hk.2) (.slice Ao9 t389.length co9)) (fun _ hk => hk.2) (.slice Ao11 t392.length co11)) (fun _ h_ => h_.1)))); (case side2 => exact (Kd.Q_reads' HO391.out).2.1); (case side3 => refine (rR (e := 3) (base := w.heap.size) (ok := fun k_ => some k_ ≠ (.slice Ao9 t389.length co9 : Value).ownBlock) (n := t392.length) (c := co11) ?_).2.2; exact (zF HO394 BK395 (.slice Ao9 t389.length co9) (.slice Ao11 t392.length co11) 0 1)); (case side4 => exact (rR HO394.out).2.1); rintro e w12 ⟨v397, v400, rfl, ho0, ho1, hb⟩; refine ⟨_, rfl, ?_⟩; have HO398 := A0_ (rL (Kd.R_new' (Kd.R_new' ho0 (Kd.Q_lt (by (with_reducible repeat (first | apply Kd.Q_alloc | apply Kd.Q_drewN | apply Kd.Q_drew)); exact (Kd.Q_mono (Kd.Q_far (p := ⟨gb395, 1, none⟩) (Kd.Q_far (p := ⟨gb395, 0, none⟩) (Kd.Q_types HO391.out BK395.out (by decide)) (fun _ hk => hk.2) (.slice Ao9 t389.length co9)) (fun _ hk => hk.2) (.slice Ao11 t392.length co11)) (fun _ h_ => h_.1))))) (rX (zF HO394 BK395 (.slice Ao9 t389.length co9) (.slice Ao11 t392.length co11) 0 1))) (bZ (zB_ HB))); have HO401 := A0_ (rL (Kd.R_new' (Kd.R_new' ho1 (Kd.Q_lt (by (with_reducible repeat (first | apply Kd.Q_alloc | apply Kd.Q_drewN | apply Kd.Q_drew)); exact (Kd.Q_mono (Kd.Q_far (p := ⟨gb395, 1, none⟩) (Kd.Q_far (p := ⟨gb395, 0, none⟩) (Kd.Q_types HO391.out BK395.out (by decide)) (fun _ hk => hk.2) (.slice Ao9 t389.length co9)) (fun _ hk => hk.2) (.slice Ao11 t392.length co11)) (fun _ h_ => h_.1))))) (rX (zF HO394 BK395 (.slice Ao9 t389.length co9) (.slice Ao11 t392.length co11) 0 1))) (bZ (zB_ HB))); replace HO391 := A0_ (Kd.Q_mono (Kd.Q_told (Kd.Q_told (Kd.Q_old (by (with_reducible repeat (first | apply Kd.Q_alloc | apply Kd.Q_drewN | apply Kd.Q_drew)); exact (Kd.Q_mono (Kd.Q_far (p := ⟨gb395, 1, none⟩) (Kd.Q_far (p := ⟨gb395, 0, none⟩) (Kd.Q_types HO391.out BK395.out (by decide)) (fun _ hk => hk.2) (.slice Ao9 t389.length co9)) (fun _ hk => hk.2) (.slice Ao11 t392.length co11)) (fun _ h_ => h_.1))) hb) (Kd.R_base ho0)) (Kd.R_base ho1)) (fun _ h_ => h_.1)); replace HO394 := A0_ (rM (rT (rT (rO (zF HO394 BK395 (.slice Ao9 t389.length co9) (.slice Ao11 t392.length co11) 0 1) hb) (Kd.R_base ho0)) (Kd.R_base ho1)) (fun _ h_ => h_.1)); replace BK395 := A0_ (kB (g := gb395) (o := .cells #[.slice Ao9 t389.length co9, .slice Ao11 t392.length co11] 25 (0, 0)) (by (with_reducible repeat (first | refine kN ?_ _ | refine kD ?_ | refine kA ?_ _)); refine blk_put (cs := #[.slice Ao9 t389.length co9, .slice none 0 0]) ?_ 1 _ rfl; (with_reducible repeat (first | refine kN ?_ _ | refine kD ?_ | refine kA ?_ _)); refine blk_put (cs := #[.slice none 0 0, .slice none 0 0]) ?_ 0 _ rfl; (with_reducible repeat (first | refine kN ?_ _ | refine kD ?_ | refine kA ?_ _)); exact BK395.out) hb); replace HB := zB HB hb; (try clear hb); (try clear ho0); (try clear ho1)) | ((with_reducible refine gD (N := 4) rfl ?_); refine zX (N := 4) (cs := #[.slice none 0 0, .slice none 0 0]) (t := 25) ?_; intro gb403 hg w13 hbox hb; replace HO391 := A0_ (Kd.Q_below (zQ_ HO391) hb); replace HO394 := zR HO394 hb; replace HO398 := zR HO398 hb; replace HO401 := zR HO401 hb; have BK403 := A0_ (hbox); have GW403 := zG hg HB; have GE403 := zG hg HB; replace HB := zB HB hb; have NB395_403 := zL hg BK395; have NB403_395 := zM hg BK395; replace BK395 := zK BK395 hb; clear hb hbox hg; obtain ⟨Ao14, co14, eo14⟩ := rS HO398.out; subst eo14; have hnb15 := NB403_395.out; have hnc15 := NB395_403.out; have hcz16_0 := zc0 BK403; have hcz16_1 := zc1 BK403; have hfz16_0 := kF BK403.out 0; have hfz16_1 := kF BK403.out 1; obtain ⟨Ao17, co17, eo17⟩ := rS HO401.out; subst eo17; have hcz18_0 := zc0 BK395; have hcz18_1 := zc1 BK395; have hfz18_0 := kF BK395.out 0; have hfz18_1 := kF BK395.out 1) | ((with_reducible refine gC (f := 8) rfl ?_); refine zJ (some 20) Tryz.func8 #[.agg #[.slice Ao9 t389.length co9, .slice Ao11 t392.length co11]] ?_; (with_reducible refine (spec_TutteQuad.calls k _ _ t389 _ _ t392 t404 t407 t410 _ ?side1 ?side2 ?side3 ?side4 A5.out).mono ?_); (case side1 => refine (Kd.Q_reads' (e := 3) (base := w.heap.size) (ok := fun k_ => ((some k_ ≠ (.slice Ao11 t392.length co11 : Value).ownBlock ∧ some k_ ≠ (.slice Ao14 t396.length co14 : Value).ownBlock) ∧ some k_ ≠ (.slice Ao17 t399.length co17 : Value).ownBlock)) (n := t389.length) (c := co9) ?_).2.2; exact (by (with_reducible repeat (first | apply Kd.Q_alloc | apply Kd.Q_drewN | apply Kd.Q_drew)); exact (Kd.Q_mono (Kd.Q_far (p := ⟨gb403, 1, none⟩) (Kd.Q_far (p := ⟨gb403, 0, none⟩) (Kd.Q_types HO391.out BK403.out (by decide)) (fun _ hk => hk.2) (.slice Ao14 t396.length co14)) (fun _ hk => hk.2) (.slice Ao17 t399.length co17)) (fun _ h_ => h_.1)))); (case side2 => exact (Kd.Q_reads' HO391.out).2.1); (case side3 => refine (rR (e := 3) (base := w.heap.size) (ok := fun k_ => ((some k_ ≠ (.slice Ao9 t389.length co9 : Value).ownBlock ∧ some k_ ≠ (.slice Ao14 t396.length co14 : Value).ownBlock) ∧ some k_ ≠ (.slice Ao17 t399.length co17 : Value).ownBlock)) (n := t392.length) (c := co11) ?_).2.2; exact (zF HO394 BK403 (.slice Ao14 t396.length co14) (.slice Ao17 t399.length co17) 0 1)); (case side4 => exact (rR HO394.out).2.1); rintro e w19 ⟨v405, v408, rfl, ho0, ho1, hb⟩; refine ⟨_, rfl, ?_⟩; have HO406 := A0_ (rL (Kd.R_new' (Kd.R_new' (Kd.R_new' (Kd.R_new' ho0 (Kd.Q_lt (by (with_reducible repeat (first | apply Kd.Q_alloc | apply Kd.Q_drewN | apply Kd.Q_drew)); exact (Kd.Q_mono (Kd.Q_far (p := ⟨gb403, 1, none⟩) (Kd.Q_far (p := ⟨gb403, 0, none⟩) (Kd.Q_types HO391.out BK403.out (by decide)) (fun _ hk => hk.2) (.slice Ao14 t396.length co14)) (fun _ hk => hk.2) (.slice Ao17 t399.length co17)) (fun _ h_ => h_.1))))) (rX (zF HO394 BK403 (.slice Ao14 t396.length co14) (.slice Ao17 t399.length co17) 0 1))) (rX (zF HO398 BK403 (.slice Ao14 t396.length co14) (.slice Ao17 t399.length co17) 0 1))) (rX (zF HO401 BK403 (.slice Ao14 t396.length co14) (.slice Ao17 t399.length co17) 0 1))) (bZ (zB_ HB))); have HO409 := A0_ (rL (Kd.R_new' (Kd.R_new' (Kd.R_new' (Kd.R_new' ho1 (Kd.Q_lt (by (with_reducible repeat (first | apply Kd.Q_alloc | apply Kd.Q_drewN | apply Kd.Q_drew)); exact (Kd.Q_mono (Kd.Q_far (p := ⟨gb403, 1, none⟩) (Kd.Q_far (p := ⟨gb403, 0, none⟩) (Kd.Q_types HO391.out BK403.out (by decide)) (fun _ hk => hk.2) (.slice Ao14 t396.length co14)) (fun _ hk => hk.2) (.slice Ao17 t399.length co17)) (fun _ h_ => h_.1))))) (rX (zF HO394 BK403 (.slice Ao14 t396.length co14) (.slice Ao17 t399.length co17) 0 1))) (rX (zF HO398 BK403 (.slice Ao14 t396.length co14) (.slice Ao17 t399.length co17) 0 1))) (rX (zF HO401 BK403 (.slice Ao14 t396.length co14) (.slice Ao17 t399.length co17) 0 1))) (bZ (zB_ HB))); replace HO391 := A0_ (Kd.Q_mono (Kd.Q_told (Kd.Q_told (Kd.Q_old (by (with_reducible repeat (first | apply Kd.Q_alloc | apply Kd.Q_drewN | apply Kd.Q_drew)); exact (Kd.Q_mono (Kd.Q_far (p := ⟨gb403, 1, none⟩) (Kd.Q_far (p := ⟨gb403, 0, none⟩) (Kd.Q_types HO391.out BK403.out (by decide)) (fun _ hk => hk.2) (.slice Ao14 t396.length co14)) (fun _ hk => hk.2) (.slice Ao17 t399.length co17)) (fun _ h_ => h_.1))) hb) (Kd.R_base ho0)) (Kd.R_base ho1)) (fun _ h_ => h_.1)); replace HO394 := A0_ (rM (rT (rT (rO (zF HO394 BK403 (.slice Ao14 t396.length co14) (.slice Ao17 t399.length co17) 0 1) hb) (Kd.R_base ho0)) (Kd.R_base ho1)) (fun _ h_ => h_.1)); replace HO398 := A0_ (rM (rT (rT (rO (zF HO398 BK403 (.slice Ao14 t396.length co14) (.slice Ao17 t399.length co17) 0 1) hb) (Kd.R_base ho0)) (Kd.R_base ho1)) (fun _ h_ => h_.1)); replace HO401 := A0_ (rM (rT (rT (rO (zF HO401 BK403 (.slice Ao14 t396.length co14) (.slice Ao17 t399.length co17) 0 1) hb) (Kd.R_base ho0)) (Kd.R_base ho1)) (fun _ h_ => h_.1)); replace BK395 := A0_ (kB (g := gb395) (o := .cells #[.slice Ao9 t389.length co9, .slice Ao11 t392.length co11] 25 (0, 0)) (by (with_reducible repeat (first | refine kN ?_ _ | refine kD ?_ | refine kA ?_ _)); refine blk_far ?_ NB395_403.out _; (with_reducible repeat (first | refine kN ?_ _ | refine kD ?_ | refine kA ?_ _)); refine blk_far ?_ NB395_403.out _; (with_reducible repeat (first | refine kN ?_ _ | refine kD ?_ | refine kA ?_ _)); exact BK395.out) hb); replace BK403 := A0_ (kB (g := gb403) (o := .cells #[.slice Ao14 t396.length co14, .slice Ao17 t399.length co17] 25 (0, 0)) (by (with_reducible repeat (first | refine kN ?_ _ | refine kD ?_ | refine kA ?_ _)); refine blk_put (cs := #[.slice Ao14 t396.length co14, .slice none 0 0]) ?_ 1 _ rfl; (with_reducible repeat (first | refine kN ?_ _ | refine kD ?_ | refine kA ?_ _)); refine blk_put (cs := #[.slice none 0 0, .slice none 0 0]) ?_ 0 _ rfl; (with_reducible repeat (first | refine kN ?_ _ | refine kD ?_ | refine kA ?_ _)); exact BK403.out) hb); replace HB := zB HB hb; (try clear hb); (try clear ho0); (try clear ho1)) | ((with_reducible refine gD (N := 6) rfl ?_); refine zX (N := 6) (cs := #[.slice none 0 0, .slice none 0 0]) (t := 25) ?_; intro gb411 hg w20 hbox hb; replace HO391 := A0_ (Kd.Q_below (zQ_ HO391) hb); replace HO394 := zR HO394 hb; replace HO398 := zR HO398 hb; replace HO401 := zR HO401 hb; replace HO406 := zR HO406 hb; replace HO409 := zR HO409 hb; have BK411 := A0_ (hbox); have GW411 := zG hg HB; have GE411 := zG hg HB; replace HB := zB HB hb; have NB395_411 := zL hg BK395; have NB411_395 := zM hg BK395; replace BK395 := zK BK395 hb; have NB403_411 := zL hg BK403; have NB411_403 := zM hg BK403; replace BK403 := zK BK403 hb; clear hb hbox hg; obtain ⟨Ao21, co21, eo21⟩ := rS HO406.out; subst eo21; have hnb22 := NB411_395.out; have hnc22 := NB395_411.out; have hnb23 := NB411_403.out; have hnc23 := NB403_411.out; have hcz24_0 := zc0 BK411; have hcz24_1 := zc1 BK411; have hfz24_0 := kF BK411.out 0; have hfz24_1 := kF BK411.out 1; obtain ⟨Ao25, co25, eo25⟩ := rS HO409.out; subst eo25))
 (try simp only [Act.put, List.setIfInBounds_toArray, List.set_cons_zero, List.set_cons_succ])
 go_cut [35] (fun v35 wc => ∃ (kq : Nat) (x35_5 : Bool), v35 = .bool x35_5 ∧ Aside0 (laws_FnExecuteTutte.j0 kq t402 t410 x35_5 t389 t392 t396 t399 t404 t407 = some r) ∧ Aside0 (kq ≤ k) ∧ Aside0 (Kd.Q (Kd.int .i64) 3 wc w.heap.size (fun k_ => some k_ ≠ ((.slice Ao11 t392.length co11) : Value).ownBlock ∧ some k_ ≠ ((.slice Ao14 t396.length co14) : Value).ownBlock ∧ some k_ ≠ ((.slice Ao17 t399.length co17) : Value).ownBlock ∧ some k_ ≠ ((.slice Ao21 t404.length co21) : Value).ownBlock ∧ some k_ ≠ ((.slice Ao25 t407.length co25) : Value).ownBlock) (.slice Ao9 t389.length co9) t389) ∧ Aside0 (Kd.R (Kd.int .i64) 3 wc w.heap.size (fun k_ => some k_ ≠ ((.slice Ao9 t389.length co9) : Value).ownBlock ∧ some k_ ≠ ((.slice Ao14 t396.length co14) : Value).ownBlock ∧ some k_ ≠ ((.slice Ao17 t399.length co17) : Value).ownBlock ∧ some k_ ≠ ((.slice Ao21 t404.length co21) : Value).ownBlock ∧ some k_ ≠ ((.slice Ao25 t407.length co25) : Value).ownBlock) (.slice Ao11 t392.length co11) t392) ∧ Aside0 (Kd.Q (Kd.int .i64) 3 wc w.heap.size (fun k_ => some k_ ≠ ((.slice Ao9 t389.length co9) : Value).ownBlock ∧ some k_ ≠ ((.slice Ao11 t392.length co11) : Value).ownBlock ∧ some k_ ≠ ((.slice Ao17 t399.length co17) : Value).ownBlock ∧ some k_ ≠ ((.slice Ao21 t404.length co21) : Value).ownBlock ∧ some k_ ≠ ((.slice Ao25 t407.length co25) : Value).ownBlock) (.slice Ao14 t396.length co14) t396) ∧ Aside0 (Kd.R (Kd.int .i64) 3 wc w.heap.size (fun k_ => some k_ ≠ ((.slice Ao9 t389.length co9) : Value).ownBlock ∧ some k_ ≠ ((.slice Ao11 t392.length co11) : Value).ownBlock ∧ some k_ ≠ ((.slice Ao14 t396.length co14) : Value).ownBlock ∧ some k_ ≠ ((.slice Ao21 t404.length co21) : Value).ownBlock ∧ some k_ ≠ ((.slice Ao25 t407.length co25) : Value).ownBlock) (.slice Ao17 t399.length co17) t399) ∧ Aside0 (Kd.Q (Kd.int .i64) 3 wc w.heap.size (fun k_ => some k_ ≠ ((.slice Ao9 t389.length co9) : Value).ownBlock ∧ some k_ ≠ ((.slice Ao11 t392.length co11) : Value).ownBlock ∧ some k_ ≠ ((.slice Ao14 t396.length co14) : Value).ownBlock ∧ some k_ ≠ ((.slice Ao17 t399.length co17) : Value).ownBlock ∧ some k_ ≠ ((.slice Ao25 t407.length co25) : Value).ownBlock) (.slice Ao21 t404.length co21) t404) ∧ Aside0 (Kd.R (Kd.int .i64) 3 wc w.heap.size (fun k_ => some k_ ≠ ((.slice Ao9 t389.length co9) : Value).ownBlock ∧ some k_ ≠ ((.slice Ao11 t392.length co11) : Value).ownBlock ∧ some k_ ≠ ((.slice Ao14 t396.length co14) : Value).ownBlock ∧ some k_ ≠ ((.slice Ao17 t399.length co17) : Value).ownBlock ∧ some k_ ≠ ((.slice Ao21 t404.length co21) : Value).ownBlock) (.slice Ao25 t407.length co25) t407) ∧ Aside0 (wc.heap[gb395]? = some (.cells #[(.slice Ao9 t389.length co9), (.slice Ao11 t392.length co11)] 25 (0, 0))) ∧ Aside0 (wc.heap[gb403]? = some (.cells #[(.slice Ao14 t396.length co14), (.slice Ao17 t399.length co17)] 25 (0, 0))) ∧ Aside0 (wc.heap[gb411]? = some (.cells #[(.slice Ao21 t404.length co21), (.slice Ao25 t407.length co25)] 25 (0, 0))) ∧ Aside0 (Below w.heap.size w wc))
 case first =>
  have H := HC6.out; clear HC6
  by_cases c26 : (t402 != t410) = true
  ·rw [if_pos c26] at H
   have c26b0 : (t402 != t410) = true := c26
   (try (have c26b1 : decide (t402 = t410) = false := by simpa using c26))
   (try (have c26b2 : (t402 == t410) = false := by simpa using c26))
   (try (have c26b3 : ¬ (t402 = t410) := by simpa using c26))
   clear c26
   (first | rw [c26b0] | (simp only [i64_w, i32_w]; rw [c26b0]) | skip)
   have H' := A0_ H; clear H
   go_wp2
   go_meet
   case rel => exact ⟨_, (true), zt, H', zo, ⟨by (with_reducible repeat (first | apply Kd.Q_alloc | apply Kd.Q_drewN | apply Kd.Q_drew)); exact Kd.Q_mono (Kd.Q_far (p := ⟨gb411, 1, none⟩) (Kd.Q_far (p := ⟨gb411, 0, none⟩) (Kd.Q_types HO391.out BK411.out (by decide)) (fun _ hk => hk.2) (.slice Ao21 t404.length co21)) (fun _ hk => hk.2) (.slice Ao25 t407.length co25)) (fun _ hk => ⟨hk.1.1.1.1.1, ⟨hk.1.1.1.1.2, ⟨hk.1.1.1.2, ⟨hk.1.1.2, hk.1.2⟩⟩⟩⟩)⟩, ⟨by (with_reducible repeat (first | apply rA | apply rN | apply rD)); exact rM (rF (p := ⟨gb411, 1, none⟩) (rF (p := ⟨gb411, 0, none⟩) (rY HO394.out BK411.out (by decide)) (fun _ hk => hk.2) (.slice Ao21 t404.length co21)) (fun _ hk => hk.2) (.slice Ao25 t407.length co25)) (fun _ hk => ⟨hk.1.1.1.1.1, ⟨hk.1.1.1.1.2, ⟨hk.1.1.1.2, ⟨hk.1.1.2, hk.1.2⟩⟩⟩⟩)⟩, ⟨Kd.Q_of_R (by (with_reducible repeat (first | apply rA | apply rN | apply rD)); exact rM (rF (p := ⟨gb411, 1, none⟩) (rF (p := ⟨gb411, 0, none⟩) (rY HO398.out BK411.out (by decide)) (fun _ hk => hk.2) (.slice Ao21 t404.length co21)) (fun _ hk => hk.2) (.slice Ao25 t407.length co25)) (fun _ hk => ⟨hk.1.1.1.1.2, ⟨hk.1.1.1.2, ⟨hk.1.1.1.1.1, ⟨hk.1.1.2, hk.1.2⟩⟩⟩⟩))⟩, ⟨by (with_reducible repeat (first | apply rA | apply rN | apply rD)); exact rM (rF (p := ⟨gb411, 1, none⟩) (rF (p := ⟨gb411, 0, none⟩) (rY HO401.out BK411.out (by decide)) (fun _ hk => hk.2) (.slice Ao21 t404.length co21)) (fun _ hk => hk.2) (.slice Ao25 t407.length co25)) (fun _ hk => ⟨hk.1.1.1.1.2, ⟨hk.1.1.1.2, ⟨hk.1.1.1.1.1, ⟨hk.1.1.2, hk.1.2⟩⟩⟩⟩)⟩, ⟨Kd.Q_of_R (by (with_reducible repeat (first | apply rA | apply rN | apply rD)); exact rM (rF (p := ⟨gb411, 1, none⟩) (rF (p := ⟨gb411, 0, none⟩) (rY HO406.out BK411.out (by decide)) (fun _ hk => hk.2) (.slice Ao21 t404.length co21)) (fun _ hk => hk.2) (.slice Ao25 t407.length co25)) (fun _ hk => ⟨hk.1.1.1.1.2, ⟨hk.1.1.1.2, ⟨hk.1.1.2, ⟨hk.1.2, hk.1.1.1.1.1⟩⟩⟩⟩))⟩, ⟨by (with_reducible repeat (first | apply rA | apply rN | apply rD)); exact rM (rF (p := ⟨gb411, 1, none⟩) (rF (p := ⟨gb411, 0, none⟩) (rY HO409.out BK411.out (by decide)) (fun _ hk => hk.2) (.slice Ao21 t404.length co21)) (fun _ hk => hk.2) (.slice Ao25 t407.length co25)) (fun _ hk => ⟨hk.1.1.1.1.2, ⟨hk.1.1.1.2, ⟨hk.1.1.2, ⟨hk.1.2, hk.1.1.1.1.1⟩⟩⟩⟩)⟩, ⟨by (with_reducible repeat (first | refine kN ?_ _ | refine kD ?_ | refine kA ?_ _)); refine blk_far ?_ NB395_411.out _; (with_reducible repeat (first | refine kN ?_ _ | refine kD ?_ | refine kA ?_ _)); refine blk_far ?_ NB395_411.out _; (with_reducible repeat (first | refine kN ?_ _ | refine kD ?_ | refine kA ?_ _)); exact BK395.out⟩, ⟨by (with_reducible repeat (first | refine kN ?_ _ | refine kD ?_ | refine kA ?_ _)); refine blk_far ?_ NB403_411.out _; (with_reducible repeat (first | refine kN ?_ _ | refine kD ?_ | refine kA ?_ _)); refine blk_far ?_ NB403_411.out _; (with_reducible repeat (first | refine kN ?_ _ | refine kD ?_ | refine kA ?_ _)); exact BK403.out⟩, ⟨by (with_reducible repeat (first | refine kN ?_ _ | refine kD ?_ | refine kA ?_ _)); refine blk_put (cs := #[.slice Ao21 t404.length co21, .slice none 0 0]) ?_ 1 _ rfl; (with_reducible repeat (first | refine kN ?_ _ | refine kD ?_ | refine kA ?_ _)); refine blk_put (cs := #[.slice none 0 0, .slice none 0 0]) ?_ 0 _ rfl; (with_reducible repeat (first | refine kN ?_ _ | refine kD ?_ | refine kA ?_ _)); exact BK411.out⟩, ⟨zB_ HB⟩⟩
  rw [if_neg c26] at H
  have c26b0 : (t402 != t410) = false := by simpa using c26
  (try (have c26b1 : decide (t402 = t410) = true := by simpa using c26))
  (try (have c26b2 : (t402 == t410) = true := by simpa using c26))
  clear c26
  (first | rw [c26b0] | (simp only [i64_w, i32_w]; rw [c26b0]) | skip)
  obtain ⟨t412, A27, H⟩ := zbind H
  by_cases c28 : t412 = true
  ·subst c28
   rw [if_pos rfl] at H; have H' := A0_ H; clear H; have hnb29 := NB403_395.out; have hnc29 := NB395_403.out; have hnb30 := NB403_411.out; have hnc30 := NB411_403.out; have hcz31_0 := zc0 BK403; have hcz31_1 := zc1 BK403; have hfz31_0 := kF BK403.out 0; have hfz31_1 := kF BK403.out 1; have hnb32 := NB411_395.out; have hnc32 := NB395_411.out; have hcz33_0 := zc0 BK411; have hcz33_1 := zc1 BK411; have hfz33_0 := kF BK411.out 0; have hfz33_1 := kF BK411.out 1
   go_wp2_with (first | (go_at_call 9; (with_reducible refine (laws_sameMap.calls k _ _ t396 _ _ t399 _ _ t404 _ _ t407 true _ ?side1 ?side2 ?side3 ?side4 ?side5 ?side6 ?side7 ?side8 A27.out).mono ?_); (case side1 => refine (rR (e := 3) (base := w.heap.size) (ok := fun k_ => ((((some k_ ≠ (.slice Ao17 t399.length co17 : Value).ownBlock ∧ some k_ ≠ (.slice Ao9 t389.length co9 : Value).ownBlock) ∧ some k_ ≠ (.slice Ao11 t392.length co11 : Value).ownBlock) ∧ some k_ ≠ (.slice Ao21 t404.length co21 : Value).ownBlock) ∧ some k_ ≠ (.slice Ao25 t407.length co25 : Value).ownBlock)) (n := t396.length) (c := co14) ?_).2.2; exact (zF HO398 BK411 (.slice Ao21 t404.length co21) (.slice Ao25 t407.length co25) 0 1)); (case side2 => exact (rR HO398.out).2.1); (case side3 => refine (rR (e := 3) (base := w.heap.size) (ok := fun k_ => ((((some k_ ≠ (.slice Ao14 t396.length co14 : Value).ownBlock ∧ some k_ ≠ (.slice Ao9 t389.length co9 : Value).ownBlock) ∧ some k_ ≠ (.slice Ao11 t392.length co11 : Value).ownBlock) ∧ some k_ ≠ (.slice Ao21 t404.length co21 : Value).ownBlock) ∧ some k_ ≠ (.slice Ao25 t407.length co25 : Value).ownBlock)) (n := t399.length) (c := co17) ?_).2.2; exact (zF HO401 BK411 (.slice Ao21 t404.length co21) (.slice Ao25 t407.length co25) 0 1)); (case side4 => exact (rR HO401.out).2.1); (case side5 => refine (rR (e := 3) (base := w.heap.size) (ok := fun k_ => ((((some k_ ≠ (.slice Ao25 t407.length co25 : Value).ownBlock ∧ some k_ ≠ (.slice Ao9 t389.length co9 : Value).ownBlock) ∧ some k_ ≠ (.slice Ao11 t392.length co11 : Value).ownBlock) ∧ some k_ ≠ (.slice Ao14 t396.length co14 : Value).ownBlock) ∧ some k_ ≠ (.slice Ao17 t399.length co17 : Value).ownBlock)) (n := t404.length) (c := co21) ?_).2.2; exact (zF HO406 BK411 (.slice Ao21 t404.length co21) (.slice Ao25 t407.length co25) 0 1)); (case side6 => exact (rR HO406.out).2.1); (case side7 => refine (rR (e := 3) (base := w.heap.size) (ok := fun k_ => ((((some k_ ≠ (.slice Ao21 t404.length co21 : Value).ownBlock ∧ some k_ ≠ (.slice Ao9 t389.length co9 : Value).ownBlock) ∧ some k_ ≠ (.slice Ao11 t392.length co11 : Value).ownBlock) ∧ some k_ ≠ (.slice Ao14 t396.length co14 : Value).ownBlock) ∧ some k_ ≠ (.slice Ao17 t399.length co17 : Value).ownBlock)) (n := t407.length) (c := co25) ?_).2.2; exact (zF HO409 BK411 (.slice Ao21 t404.length co21) (.slice Ao25 t407.length co25) 0 1)); (case side8 => exact (rR HO409.out).2.1); rintro e w34 ⟨rfl, hb⟩; replace HO391 := A0_ (Kd.Q_below (by (with_reducible repeat (first | apply Kd.Q_alloc | apply Kd.Q_drewN | apply Kd.Q_drew)); exact (Kd.Q_mono (Kd.Q_far (p := ⟨gb411, 1, none⟩) (Kd.Q_far (p := ⟨gb411, 0, none⟩) (Kd.Q_types HO391.out BK411.out (by decide)) (fun _ hk => hk.2) (.slice Ao21 t404.length co21)) (fun _ hk => hk.2) (.slice Ao25 t407.length co25)) (fun _ h_ => h_.1))) hb); replace HO394 := A0_ (rB (zF HO394 BK411 (.slice Ao21 t404.length co21) (.slice Ao25 t407.length co25) 0 1) hb); replace HO398 := A0_ (rB (zF HO398 BK411 (.slice Ao21 t404.length co21) (.slice Ao25 t407.length co25) 0 1) hb); replace HO401 := A0_ (rB (zF HO401 BK411 (.slice Ao21 t404.length co21) (.slice Ao25 t407.length co25) 0 1) hb); replace HO406 := A0_ (rB (zF HO406 BK411 (.slice Ao21 t404.length co21) (.slice Ao25 t407.length co25) 0 1) hb); replace HO409 := A0_ (rB (zF HO409 BK411 (.slice Ao21 t404.length co21) (.slice Ao25 t407.length co25) 0 1) hb); replace BK395 := A0_ (kB (g := gb395) (o := .cells #[.slice Ao9 t389.length co9, .slice Ao11 t392.length co11] 25 (0, 0)) (by (with_reducible repeat (first | refine kN ?_ _ | refine kD ?_ | refine kA ?_ _)); refine blk_far ?_ NB395_411.out _; (with_reducible repeat (first | refine kN ?_ _ | refine kD ?_ | refine kA ?_ _)); refine blk_far ?_ NB395_411.out _; (with_reducible repeat (first | refine kN ?_ _ | refine kD ?_ | refine kA ?_ _)); exact BK395.out) hb); replace BK403 := A0_ (kB (g := gb403) (o := .cells #[.slice Ao14 t396.length co14, .slice Ao17 t399.length co17] 25 (0, 0)) (by (with_reducible repeat (first | refine kN ?_ _ | refine kD ?_ | refine kA ?_ _)); refine blk_far ?_ NB403_411.out _; (with_reducible repeat (first | refine kN ?_ _ | refine kD ?_ | refine kA ?_ _)); refine blk_far ?_ NB403_411.out _; (with_reducible repeat (first | refine kN ?_ _ | refine kD ?_ | refine kA ?_ _)); exact BK403.out) hb); replace BK411 := A0_ (kB (g := gb411) (o := .cells #[.slice Ao21 t404.length co21, .slice Ao25 t407.length co25] 25 (0, 0)) (by (with_reducible repeat (first | refine kN ?_ _ | refine kD ?_ | refine kA ?_ _)); refine blk_put (cs := #[.slice Ao21 t404.length co21, .slice none 0 0]) ?_ 1 _ rfl; (with_reducible repeat (first | refine kN ?_ _ | refine kD ?_ | refine kA ?_ _)); refine blk_put (cs := #[.slice none 0 0, .slice none 0 0]) ?_ 0 _ rfl; (with_reducible repeat (first | refine kN ?_ _ | refine kD ?_ | refine kA ?_ _)); exact BK411.out) hb); replace HB := zB HB hb; (try clear hb)))
   go_meet
   case rel => exact ⟨_, (!t402), zt, H', zo, ⟨zmQ HO391 (fun _ hk => ⟨hk.1.1.1.1, ⟨hk.1.1.1.2, ⟨hk.1.1.2, ⟨hk.1.2, hk.2⟩⟩⟩⟩)⟩, ⟨zmR HO394 (fun _ hk => ⟨hk.1.1.1.1, ⟨hk.1.1.1.2, ⟨hk.1.1.2, ⟨hk.1.2, hk.2⟩⟩⟩⟩)⟩, ⟨Kd.Q_of_R (zmR HO398 (fun _ hk => ⟨hk.1.1.1.2, ⟨hk.1.1.2, ⟨hk.1.1.1.1, ⟨hk.1.2, hk.2⟩⟩⟩⟩))⟩, ⟨zmR HO401 (fun _ hk => ⟨hk.1.1.1.2, ⟨hk.1.1.2, ⟨hk.1.1.1.1, ⟨hk.1.2, hk.2⟩⟩⟩⟩)⟩, ⟨Kd.Q_of_R (zmR HO406 (fun _ hk => ⟨hk.1.1.1.2, ⟨hk.1.1.2, ⟨hk.1.2, ⟨hk.2, hk.1.1.1.1⟩⟩⟩⟩))⟩, ⟨zmR HO409 (fun _ hk => ⟨hk.1.1.1.2, ⟨hk.1.1.2, ⟨hk.1.2, ⟨hk.2, hk.1.1.1.1⟩⟩⟩⟩)⟩, ⟨zK_ BK395⟩, ⟨zK_ BK403⟩, ⟨zK_ BK411⟩, ⟨zB_ HB⟩⟩
  replace c28 := Bool.eq_false_iff.mpr c28; subst c28
  rw [if_neg (show ¬ (false = true) by decide)] at H
  have H' := A0_ H; clear H; have hnb35 := NB403_395.out; have hnc35 := NB395_403.out; have hnb36 := NB403_411.out; have hnc36 := NB411_403.out; have hcz37_0 := zc0 BK403; have hcz37_1 := zc1 BK403; have hfz37_0 := kF BK403.out 0; have hfz37_1 := kF BK403.out 1; have hnb38 := NB411_395.out; have hnc38 := NB395_411.out; have hcz39_0 := zc0 BK411; have hcz39_1 := zc1 BK411; have hfz39_0 := kF BK411.out 0; have hfz39_1 := kF BK411.out 1
  go_wp2_with (first | (go_at_call 9; (with_reducible refine (laws_sameMap.calls k _ _ t396 _ _ t399 _ _ t404 _ _ t407 false _ ?side1 ?side2 ?side3 ?side4 ?side5 ?side6 ?side7 ?side8 A27.out).mono ?_); (case side1 => refine (rR (e := 3) (base := w.heap.size) (ok := fun k_ => ((((some k_ ≠ (.slice Ao17 t399.length co17 : Value).ownBlock ∧ some k_ ≠ (.slice Ao9 t389.length co9 : Value).ownBlock) ∧ some k_ ≠ (.slice Ao11 t392.length co11 : Value).ownBlock) ∧ some k_ ≠ (.slice Ao21 t404.length co21 : Value).ownBlock) ∧ some k_ ≠ (.slice Ao25 t407.length co25 : Value).ownBlock)) (n := t396.length) (c := co14) ?_).2.2; exact (zF HO398 BK411 (.slice Ao21 t404.length co21) (.slice Ao25 t407.length co25) 0 1)); (case side2 => exact (rR HO398.out).2.1); (case side3 => refine (rR (e := 3) (base := w.heap.size) (ok := fun k_ => ((((some k_ ≠ (.slice Ao14 t396.length co14 : Value).ownBlock ∧ some k_ ≠ (.slice Ao9 t389.length co9 : Value).ownBlock) ∧ some k_ ≠ (.slice Ao11 t392.length co11 : Value).ownBlock) ∧ some k_ ≠ (.slice Ao21 t404.length co21 : Value).ownBlock) ∧ some k_ ≠ (.slice Ao25 t407.length co25 : Value).ownBlock)) (n := t399.length) (c := co17) ?_).2.2; exact (zF HO401 BK411 (.slice Ao21 t404.length co21) (.slice Ao25 t407.length co25) 0 1)); (case side4 => exact (rR HO401.out).2.1); (case side5 => refine (rR (e := 3) (base := w.heap.size) (ok := fun k_ => ((((some k_ ≠ (.slice Ao25 t407.length co25 : Value).ownBlock ∧ some k_ ≠ (.slice Ao9 t389.length co9 : Value).ownBlock) ∧ some k_ ≠ (.slice Ao11 t392.length co11 : Value).ownBlock) ∧ some k_ ≠ (.slice Ao14 t396.length co14 : Value).ownBlock) ∧ some k_ ≠ (.slice Ao17 t399.length co17 : Value).ownBlock)) (n := t404.length) (c := co21) ?_).2.2; exact (zF HO406 BK411 (.slice Ao21 t404.length co21) (.slice Ao25 t407.length co25) 0 1)); (case side6 => exact (rR HO406.out).2.1); (case side7 => refine (rR (e := 3) (base := w.heap.size) (ok := fun k_ => ((((some k_ ≠ (.slice Ao21 t404.length co21 : Value).ownBlock ∧ some k_ ≠ (.slice Ao9 t389.length co9 : Value).ownBlock) ∧ some k_ ≠ (.slice Ao11 t392.length co11 : Value).ownBlock) ∧ some k_ ≠ (.slice Ao14 t396.length co14 : Value).ownBlock) ∧ some k_ ≠ (.slice Ao17 t399.length co17 : Value).ownBlock)) (n := t407.length) (c := co25) ?_).2.2; exact (zF HO409 BK411 (.slice Ao21 t404.length co21) (.slice Ao25 t407.length co25) 0 1)); (case side8 => exact (rR HO409.out).2.1); rintro e w40 ⟨rfl, hb⟩; replace HO391 := A0_ (Kd.Q_below (by (with_reducible repeat (first | apply Kd.Q_alloc | apply Kd.Q_drewN | apply Kd.Q_drew)); exact (Kd.Q_mono (Kd.Q_far (p := ⟨gb411, 1, none⟩) (Kd.Q_far (p := ⟨gb411, 0, none⟩) (Kd.Q_types HO391.out BK411.out (by decide)) (fun _ hk => hk.2) (.slice Ao21 t404.length co21)) (fun _ hk => hk.2) (.slice Ao25 t407.length co25)) (fun _ h_ => h_.1))) hb); replace HO394 := A0_ (rB (zF HO394 BK411 (.slice Ao21 t404.length co21) (.slice Ao25 t407.length co25) 0 1) hb); replace HO398 := A0_ (rB (zF HO398 BK411 (.slice Ao21 t404.length co21) (.slice Ao25 t407.length co25) 0 1) hb); replace HO401 := A0_ (rB (zF HO401 BK411 (.slice Ao21 t404.length co21) (.slice Ao25 t407.length co25) 0 1) hb); replace HO406 := A0_ (rB (zF HO406 BK411 (.slice Ao21 t404.length co21) (.slice Ao25 t407.length co25) 0 1) hb); replace HO409 := A0_ (rB (zF HO409 BK411 (.slice Ao21 t404.length co21) (.slice Ao25 t407.length co25) 0 1) hb); replace BK395 := A0_ (kB (g := gb395) (o := .cells #[.slice Ao9 t389.length co9, .slice Ao11 t392.length co11] 25 (0, 0)) (by (with_reducible repeat (first | refine kN ?_ _ | refine kD ?_ | refine kA ?_ _)); refine blk_far ?_ NB395_411.out _; (with_reducible repeat (first | refine kN ?_ _ | refine kD ?_ | refine kA ?_ _)); refine blk_far ?_ NB395_411.out _; (with_reducible repeat (first | refine kN ?_ _ | refine kD ?_ | refine kA ?_ _)); exact BK395.out) hb); replace BK403 := A0_ (kB (g := gb403) (o := .cells #[.slice Ao14 t396.length co14, .slice Ao17 t399.length co17] 25 (0, 0)) (by (with_reducible repeat (first | refine kN ?_ _ | refine kD ?_ | refine kA ?_ _)); refine blk_far ?_ NB403_411.out _; (with_reducible repeat (first | refine kN ?_ _ | refine kD ?_ | refine kA ?_ _)); refine blk_far ?_ NB403_411.out _; (with_reducible repeat (first | refine kN ?_ _ | refine kD ?_ | refine kA ?_ _)); exact BK403.out) hb); replace BK411 := A0_ (kB (g := gb411) (o := .cells #[.slice Ao21 t404.length co21, .slice Ao25 t407.length co25] 25 (0, 0)) (by (with_reducible repeat (first | refine kN ?_ _ | refine kD ?_ | refine kA ?_ _)); refine blk_put (cs := #[.slice Ao21 t404.length co21, .slice none 0 0]) ?_ 1 _ rfl; (with_reducible repeat (first | refine kN ?_ _ | refine kD ?_ | refine kA ?_ _)); refine blk_put (cs := #[.slice none 0 0, .slice none 0 0]) ?_ 0 _ rfl; (with_reducible repeat (first | refine kN ?_ _ | refine kD ?_ | refine kA ?_ _)); exact BK411.out) hb); replace HB := zB HB hb; (try clear hb)))
  go_meet
  case rel => exact ⟨_, (true), zt, H', zo, ⟨zmQ HO391 (fun _ hk => ⟨hk.1.1.1.1, ⟨hk.1.1.1.2, ⟨hk.1.1.2, ⟨hk.1.2, hk.2⟩⟩⟩⟩)⟩, ⟨zmR HO394 (fun _ hk => ⟨hk.1.1.1.1, ⟨hk.1.1.1.2, ⟨hk.1.1.2, ⟨hk.1.2, hk.2⟩⟩⟩⟩)⟩, ⟨Kd.Q_of_R (zmR HO398 (fun _ hk => ⟨hk.1.1.1.2, ⟨hk.1.1.2, ⟨hk.1.1.1.1, ⟨hk.1.2, hk.2⟩⟩⟩⟩))⟩, ⟨zmR HO401 (fun _ hk => ⟨hk.1.1.1.2, ⟨hk.1.1.2, ⟨hk.1.1.1.1, ⟨hk.1.2, hk.2⟩⟩⟩⟩)⟩, ⟨Kd.Q_of_R (zmR HO406 (fun _ hk => ⟨hk.1.1.1.2, ⟨hk.1.1.2, ⟨hk.1.2, ⟨hk.2, hk.1.1.1.1⟩⟩⟩⟩))⟩, ⟨zmR HO409 (fun _ hk => ⟨hk.1.1.1.2, ⟨hk.1.1.2, ⟨hk.1.2, ⟨hk.2, hk.1.1.1.1⟩⟩⟩⟩)⟩, ⟨zK_ BK395⟩, ⟨zK_ BK403⟩, ⟨zK_ BK411⟩, ⟨zB_ HB⟩⟩
 case rest =>
  clear HC6; (try clear c1); (try clear c2); (try clear c2b0); (try clear c2b1); (try clear p2); (try clear c3); (try clear c6); (try clear c7); (try clear c8); (try clear c15); (try clear c22); (try clear c23); (try clear c26); (try clear c26b0); (try clear c26b1); (try clear c26b2); (try clear c28); (try clear c29); (try clear c30); (try clear c32); (try clear c35); (try clear c36); (try clear c38); (try clear hcz10_0); (try clear hcz10_1); (try clear hcz16_0); (try clear hcz16_1); (try clear hcz18_0); (try clear hcz18_1); (try clear hcz24_0); (try clear hcz24_1); (try clear hcz31_0); (try clear hcz31_1); (try clear hcz33_0); (try clear hcz33_1); (try clear hcz37_0); (try clear hcz37_1); (try clear hcz39_0); (try clear hcz39_1); (try clear hfz10_0); (try clear hfz10_1); (try clear hfz16_0); (try clear hfz16_1); (try clear hfz18_0); (try clear hfz18_1); (try clear hfz24_0); (try clear hfz24_1); (try clear hfz31_0); (try clear hfz31_1); (try clear hfz33_0); (try clear hfz33_1); (try clear hfz37_0); (try clear hfz37_1); (try clear hfz39_0); (try clear hfz39_1); obtain ⟨kq, x35_5, rfl, HA, HJ5, HO_396000, HO_396001, HO_404000, HO_404001, HO_412000, HO_412001, BK395, BK403, BK411, HB⟩ := hcut
  cases kq with
  | zero => exact absurd HA.out (by simp [laws_FnExecuteTutte.j0])
  | succ kj5 =>
   have H := HA.out; clear HA; simp only [laws_FnExecuteTutte.j0] at H
   by_cases c41 : x35_5 = true
   ·subst c41
    rw [if_pos rfl] at H
    by_cases c42 : (t402 == t410) = true
    ·rw [if_pos c42] at H
     have c42b0 : (t402 == t410) = true := c42
     (try (have c42b1 : decide (t402 = t410) = true := by simpa using c42))
     (try (have c42b2 : (t402 == t410) = true := by simpa using c42))
     clear c42; obtain ⟨t413, A43, H⟩ := zbind H; obtain rfl := sI H; have hnb44 := NB403_395.out; have hnc44 := NB395_403.out; have hnb45 := NB403_411.out; have hnc45 := NB411_403.out; have hcz46_0 := zc0 BK403; have hcz46_1 := zc1 BK403; have hfz46_0 := kF BK403.out 0; have hfz46_1 := kF BK403.out 1; have hnb47 := NB411_395.out; have hnc47 := NB395_411.out; have hcz48_0 := zc0 BK411; have hcz48_1 := zc1 BK411; have hfz48_0 := kF BK411.out 0; have hfz48_1 := kF BK411.out 1
     go_wp2_with (first | (go_at_call 9; (with_reducible refine (laws_sameMap.calls kj5 _ _ t396 _ _ t399 _ _ t404 _ _ t407 t413 _ ?side1 ?side2 ?side3 ?side4 ?side5 ?side6 ?side7 ?side8 A43.out).mono ?_); (case side1 => exact zDQ HO_404000); (case side2 => exact (Kd.Q_reads' HO_404000.out).2.1); (case side3 => exact zD HO_404001); (case side4 => exact (rR HO_404001.out).2.1); (case side5 => exact zDQ HO_412000); (case side6 => exact (Kd.Q_reads' HO_412000.out).2.1); (case side7 => exact zD HO_412001); (case side8 => exact (rR HO_412001.out).2.1); rintro e w49 ⟨rfl, hb⟩; replace HO_396000 := A0_ (Kd.Q_below (zQ_ HO_396000) hb); replace HO_396001 := zR HO_396001 hb; replace HO_404000 := A0_ (Kd.Q_below (zQ_ HO_404000) hb); replace HO_404001 := zR HO_404001 hb; replace HO_412000 := A0_ (Kd.Q_below (zQ_ HO_412000) hb); replace HO_412001 := zR HO_412001 hb; replace BK395 := zK BK395 hb; replace BK403 := zK BK403 hb; replace BK411 := zK BK411 hb; replace HB := zB HB hb; (try clear hb)))
     go_ret
     exact ⟨by first | rfl | (simp [*] <;> rfl), zB_ HB⟩
    rw [if_neg c42] at H
    have c42b0 : (t402 == t410) = false := by simpa using c42
    (try (have c42b1 : decide (t402 = t410) = false := by simpa using c42))
    (try (have c42b2 : (t402 == t410) = false := by simpa using c42))
    (try (have c42b3 : ¬ (t402 = t410) := by simpa using c42))
    clear c42; obtain rfl := sI H
    go_wp2
    go_ret
    exact ⟨by first | rfl | (simp [*] <;> rfl), zB_ HB⟩
   replace c41 := Bool.eq_false_iff.mpr c41; subst c41
   rw [if_neg (show ¬ (false = true) by decide)] at H
   obtain ⟨t414, A50, H⟩ := zbind H
   by_cases c51 : t414.size + 11 ≤ 9223372036854775807
   ·rw [if_pos c51] at H
    have c51b0 := eq_true c51; have c51b1 := dT c51
    try have c51b2 : (9223372036854775807 < t414.size + 11) = False := eq_false (Nat.not_lt.2 c51)
    obtain ⟨zs52, hzs52⟩ : ∃ j_ : ByteArray, (t414 ++ (⟨#[116, 117, 116, 116, 101, 10, 115, 104, 111, 119, 10]⟩ : ByteArray)) = j_ := ⟨_, rfl⟩
    replace H : ((impl_Execute.f kj5 zs52).bind fun t415 => ((laws_shown.f kj5 t396 t399).bind fun t416 => (if 6 + t416.size ≤ 9223372036854775807 then ((laws_endLine.f kj5 (t396.length : Int)).bind fun t417 => (if ((⟨#[111, 107, 10, 111, 107, 10]⟩ : ByteArray) ++ t416).size + t417.size ≤ 9223372036854775807 then (some (t415.toList == (((⟨#[111, 107, 10, 111, 107, 10]⟩ : ByteArray) ++ t416) ++ t417).toList)) else (none))) else (none)))) = some r := by first | (rw [hzs52] at H; exact H) | (simp only [hzs52] at H ⊢; exact H) | exact H
    (try rw [hzs52] at A50)
    obtain ⟨t415, A53, H⟩ := zbind H; obtain ⟨t416, A54, H⟩ := zbind H
    by_cases c55 : 6 + t416.size ≤ 9223372036854775807
    ·rw [if_pos c55] at H
     have c55b0 := eq_true c55; have c55b1 := dT c55
     try have c55b2 : (9223372036854775807 < 6 + t416.size) = False := eq_false (Nat.not_lt.2 c55)
     obtain ⟨zs56, hzs56⟩ : ∃ j_ : ByteArray, ((⟨#[111, 107, 10, 111, 107, 10]⟩ : ByteArray) ++ t416) = j_ := ⟨_, rfl⟩
     replace H : ((laws_endLine.f kj5 (t396.length : Int)).bind fun t417 => (if zs56.size + t417.size ≤ 9223372036854775807 then (some (t415.toList == (zs56 ++ t417).toList)) else (none))) = some r := by first | (rw [hzs56] at H; exact H) | (simp only [hzs56] at H ⊢; exact H) | exact H
     (try rw [hzs56] at A50)
     (try rw [hzs56] at A53)
     (try rw [hzs56] at A54)
     obtain ⟨t417, A57, H⟩ := zbind H
     by_cases c58 : zs56.size + t417.size ≤ 9223372036854775807
     ·rw [if_pos c58] at H
      have c58b0 := eq_true c58; have c58b1 := dT c58
      try have c58b2 : (9223372036854775807 < zs56.size + t417.size) = False := eq_false (Nat.not_lt.2 c58)
      obtain ⟨zs59, hzs59⟩ : ∃ j_ : ByteArray, (zs56 ++ t417) = j_ := ⟨_, rfl⟩
      replace H : (some (t415.toList == zs59.toList)) = some r := by first | (rw [hzs59] at H; exact H) | (simp only [hzs59] at H ⊢; exact H) | exact H
      (try rw [hzs59] at A50)
      (try rw [hzs59] at A53)
      (try rw [hzs59] at A54)
      (try rw [hzs59] at A57)
      obtain rfl := sI H
      try go_wp2
      replace HO_396000 := A0_ (Kd.Q_drew HO_396000.out)
      replace HO_396001 := A0_ (rD HO_396001.out)
      replace HO_404000 := A0_ (Kd.Q_drew HO_404000.out)
      replace HO_404001 := A0_ (rD HO_404001.out)
      replace HO_412000 := A0_ (Kd.Q_drew HO_412000.out)
      replace HO_412001 := A0_ (rD HO_412001.out)
      replace BK395 := A0_ (kD BK395.out)
      replace BK403 := A0_ (kD BK403.out)
      replace BK411 := A0_ (kD BK411.out)
      replace HB := A0_ (bD HB.out)
      refine start_ (n := 14) (S := fun w' => w'.cell? ⟨gb395, 0, none⟩ = some (.slice Ao9 t389.length co9) ∧ w'.cell? ⟨gb395, 1, none⟩ = some (.slice Ao11 t392.length co11) ∧ w'.cell? ⟨gb403, 0, none⟩ = some (.slice Ao14 t396.length co14) ∧ w'.cell? ⟨gb403, 1, none⟩ = some (.slice Ao17 t399.length co17)) (ds := []) #[false, false, false, false, false, false, false, false, false, false, false, false, false, false] (by kernel_rfl) rfl rfl ⟨(kC BK395.out 0).trans rfl, (kC BK395.out 1).trans rfl, (kC BK403.out 0).trans rfl, (kC BK403.out 1).trans rfl⟩ (fun hHeld => ?_); refine with_tabW laws_FnExecuteTutte.tab8 laws_FnExecuteTutte.bits8 (fun HT_ HW_ => ?_)
      generalize wc.drew = w60 at HO_396000 HO_396001 HO_404000 HO_404001 HO_412000 HO_412001 BK395 BK403 BK411 HB hHeld ⊢
      refine zP 7 (some 51) #[false,false,false,false,false,false,false,true,false,false,false,false,false,false] ?_
      refine take_ (i := 0) (N := some 44) (v := ?_) (a' := ?_) #[true, false, false, false, false, false, false, true, false, false, false, false, false, false] rfl rfl (take_ofW HT_.out HW_.out (by kernel_rfl)) (fun _ _ _ h => h) (Or.inl ⟨by rfl, ?_⟩) hHeld ?_ ?_
      rotate_left
      ·rintro w' ⟨s0, s1, s2, s3⟩
       go_simp
       with_reducible rfl
      rotate_left
      ·simp only [Act.put, List.setIfInBounds_toArray, List.set_cons_zero, List.set_cons_succ, i64_w, i32_w]
       rfl
      refine take_ (i := 4) (N := some 48) (v := ?_) (a' := ?_) #[true, false, false, false, true, false, false, true, false, false, false, false, false, false] rfl rfl (take_ofW HT_.out HW_.out (by kernel_rfl)) (fun _ _ _ h => h) (Or.inl ⟨by rfl, ?_⟩) hHeld ?_ ?_
      rotate_left
      ·rintro w' ⟨s0, s1, s2, s3⟩
       go_simp
       with_reducible rfl
      rotate_left
      ·simp only [Act.put, List.setIfInBounds_toArray, List.set_cons_zero, List.set_cons_succ, i64_w, i32_w]
       rfl
      refine take_ (i := 8) (N := some 52) (v := ?_) (a' := ?_) #[true, false, false, false, true, false, false, true, true, false, false, false, false, false] rfl rfl (take_ofW HT_.out HW_.out (by kernel_rfl)) (fun _ _ _ h => h) (Or.inl ⟨by rfl, ?_⟩) hHeld ?_ ?_
      rotate_left
      ·rintro w' ⟨s0, s1, s2, s3⟩
       go_simp
       with_reducible rfl
      rotate_left
      ·simp only [Act.put, List.setIfInBounds_toArray, List.set_cons_zero, List.set_cons_succ, i64_w, i32_w]
       rfl
      refine zP 9 (some 53) #[true,false,false,false,true,false,false,true,true,true,false,false,false,false] ?_
      refine one_ (i := 1) (N := some 45) #[true, true, false, false, true, false, false, true, true, true, false, false, false, false] rfl rfl (one_of HT_.out (by kernel_rfl)) (by decide) (fun K hK => ?_)
      refine goes_ Tryz.func11 (by kernel_rfl) rfl #[.agg #[.slice Ao9 t389.length co9, .slice Ao11 t392.length co11]] (by rfl) rfl rfl (by (try simp only [List.map_toArray, List.map_cons, List.map_nil]); first | done | rfl | (simp only [List.length_drop, List.length_take]; rfl)) ?_
      with_reducible refine (laws_mapLine.calls kj5 _ _ t389 _ _ t392 t414 _ ?side1 ?side2 ?side3 ?side4 A50.out).mono ?_
      (case side1 => exact zDQ HO_396000)
      (case side2 => exact (Kd.Q_reads' HO_396000.out).2.1)
      (case side3 => exact zD HO_396001)
      (case side4 => exact (rR HO_396001.out).2.1)
      rintro e w61 ⟨rfl, hb⟩
      refine ⟨_, rfl, ?_⟩
      replace HO_396000 := A0_ (Kd.Q_below (zQ_ HO_396000) hb)
      replace HO_396001 := zR HO_396001 hb
      replace HO_404000 := A0_ (Kd.Q_below (zQ_ HO_404000) hb)
      replace HO_404001 := zR HO_404001 hb
      replace HO_412000 := A0_ (Kd.Q_below (zQ_ HO_412000) hb)
      replace HO_412001 := zR HO_412001 hb; replace BK395 := zK BK395 hb; replace BK403 := zK BK403 hb; replace BK411 := zK BK411 hb; replace HB := zB HB hb; (try clear hb); (try clear hb2); (try clear hk); (try clear hi)
      refine hK.out _ _ ⟨(kC BK395.out 0).trans rfl, (kC BK395.out 1).trans rfl, (kC BK403.out 0).trans rfl, (kC BK403.out 1).trans rfl⟩ (fun hHeld => ?_)
      clear hK K
      refine norm_ (a' := ?_) ?_ ?_
      rotate_left
      ·show Act.put _ (some 45) _ = _
       simp only [Act.put, List.setIfInBounds_toArray, List.set_cons_zero, List.set_cons_succ, i64_w, i32_w]
       rfl
      refine zP 2 (some 46) #[true,true,true,false,true,false,false,true,true,true,false,false,false,false] ?_
      refine one_ (i := 3) (N := some 47) #[true, true, true, true, true, false, false, true, true, true, false, false, false, false] rfl rfl (one_of HT_.out (by kernel_rfl)) (by decide) (fun K hK => ?_)
      refine goes_ Tryz.func10 (by kernel_rfl) rfl #[.string zs52] (by rfl) rfl rfl (by (try simp only [List.map_toArray, List.map_cons, List.map_nil]); first | done | rfl | (simp only [List.length_drop, List.length_take]; rfl)) ?_
      with_reducible refine (impl_Execute.calls kj5 zs52 t415 _ A53.out).mono ?_
      rintro e w62 ⟨rfl, hb⟩
      refine ⟨_, rfl, ?_⟩
      replace HO_396000 := A0_ (Kd.Q_below (zQ_ HO_396000) hb)
      replace HO_396001 := zR HO_396001 hb
      replace HO_404000 := A0_ (Kd.Q_below (zQ_ HO_404000) hb)
      replace HO_404001 := zR HO_404001 hb
      replace HO_412000 := A0_ (Kd.Q_below (zQ_ HO_412000) hb)
      replace HO_412001 := zR HO_412001 hb; replace BK395 := zK BK395 hb; replace BK403 := zK BK403 hb; replace BK411 := zK BK411 hb; replace HB := zB HB hb; (try clear hb); (try clear hb2); (try clear hk); (try clear hi)
      refine hK.out _ _ ⟨(kC BK395.out 0).trans rfl, (kC BK395.out 1).trans rfl, (kC BK403.out 0).trans rfl, (kC BK403.out 1).trans rfl⟩ (fun hHeld => ?_)
      clear hK K
      refine norm_ (a' := ?_) ?_ ?_
      rotate_left
      ·show Act.put _ (some 47) _ = _
       simp only [Act.put, List.setIfInBounds_toArray, List.set_cons_zero, List.set_cons_succ, i64_w, i32_w]
       rfl
      refine one_ (i := 5) (N := some 49) #[true, true, true, true, true, true, false, true, true, true, false, false, false, false] rfl rfl (one_of HT_.out (by kernel_rfl)) (by decide) (fun K hK => ?_)
      refine goes_ Tryz.func12 (by kernel_rfl) rfl #[.agg #[.slice Ao14 t396.length co14, .slice Ao17 t399.length co17]] (by rfl) rfl rfl (by (try simp only [List.map_toArray, List.map_cons, List.map_nil]); first | done | rfl | (simp only [List.length_drop, List.length_take]; rfl)) ?_
      with_reducible refine (laws_shown.calls kj5 _ _ t396 _ _ t399 t416 _ ?side1 ?side2 ?side3 ?side4 A54.out).mono ?_
      (case side1 => exact zDQ HO_404000)
      (case side2 => exact (Kd.Q_reads' HO_404000.out).2.1)
      (case side3 => exact zD HO_404001)
      (case side4 => exact (rR HO_404001.out).2.1)
      rintro e w63 ⟨rfl, hb⟩
      refine ⟨_, rfl, ?_⟩
      replace HO_396000 := A0_ (Kd.Q_below (zQ_ HO_396000) hb)
      replace HO_396001 := zR HO_396001 hb
      replace HO_404000 := A0_ (Kd.Q_below (zQ_ HO_404000) hb)
      replace HO_404001 := zR HO_404001 hb
      replace HO_412000 := A0_ (Kd.Q_below (zQ_ HO_412000) hb)
      replace HO_412001 := zR HO_412001 hb; replace BK395 := zK BK395 hb; replace BK403 := zK BK403 hb; replace BK411 := zK BK411 hb; replace HB := zB HB hb; (try clear hb); (try clear hb2); (try clear hk); (try clear hi)
      refine hK.out _ _ ⟨(kC BK395.out 0).trans rfl, (kC BK395.out 1).trans rfl, (kC BK403.out 0).trans rfl, (kC BK403.out 1).trans rfl⟩ (fun hHeld => ?_)
      clear hK K
      refine norm_ (a' := ?_) ?_ ?_
      rotate_left
      ·show Act.put _ (some 49) _ = _
       simp only [Act.put, List.setIfInBounds_toArray, List.set_cons_zero, List.set_cons_succ, i64_w, i32_w]
       rfl
      refine zP 6 (some 50) #[true,true,true,true,true,true,true,true,true,true,false,false,false,false] ?_
      refine one_ (i := 10) (N := some 54) #[true, true, true, true, true, true, true, true, true, true, true, false, false, false] rfl rfl (one_of HT_.out (by kernel_rfl)) (by decide) (fun K hK => ?_)
      refine goes_ Tryz.func13 (by kernel_rfl) rfl #[.int .i64 (t396.length : Int)] (by rfl) rfl rfl (by (try simp only [List.map_toArray, List.map_cons, List.map_nil]); first | done | rfl | (simp only [List.length_drop, List.length_take]; rfl)) ?_
      with_reducible refine (laws_endLine.calls kj5 (t396.length : Int) t417 _ A57.out).mono ?_
      rintro e w64 ⟨rfl, hb⟩
      refine ⟨_, rfl, ?_⟩
      replace HO_396000 := A0_ (Kd.Q_below (zQ_ HO_396000) hb)
      replace HO_396001 := zR HO_396001 hb
      replace HO_404000 := A0_ (Kd.Q_below (zQ_ HO_404000) hb)
      replace HO_404001 := zR HO_404001 hb
      replace HO_412000 := A0_ (Kd.Q_below (zQ_ HO_412000) hb)
      replace HO_412001 := zR HO_412001 hb; replace BK395 := zK BK395 hb; replace BK403 := zK BK403 hb; replace BK411 := zK BK411 hb; replace HB := zB HB hb; (try clear hb); (try clear hb2); (try clear hk); (try clear hi)
      refine hK.out _ _ ⟨(kC BK395.out 0).trans rfl, (kC BK395.out 1).trans rfl, (kC BK403.out 0).trans rfl, (kC BK403.out 1).trans rfl⟩ (fun hHeld => ?_)
      clear hK K
      refine norm_ (a' := ?_) ?_ ?_
      rotate_left
      ·show Act.put _ (some 54) _ = _
       simp only [Act.put, List.setIfInBounds_toArray, List.set_cons_zero, List.set_cons_succ, i64_w, i32_w]
       rfl
      refine zP 11 (some 55) #[true,true,true,true,true,true,true,true,true,true,true,true,false,false] ?_
      refine zP 12 (some 56) #[true,true,true,true,true,true,true,true,true,true,true,true,true,false] ?_
      refine zP 13 (some 2) #[true,true,true,true,true,true,true,true,true,true,true,true,true,true] ?_
      refine done_ (done_of HT_.out (by kernel_rfl)) ?_
      try go_wp2
      go_ret
      exact ⟨by first | rfl | (simp [*] <;> rfl), zB_ HB⟩
     rw [if_neg c58] at H
     exact absurd H (by simp)
    rw [if_neg c55] at H
    exact absurd H (by simp)
   rw [if_neg c51] at H
   exact absurd H (by simp)

/-- THE ONE PURE STATEMENT of laws_FnExecuteTutte: yours. -/
def laws_FnExecuteTutte.Pure : Prop := ∀ (l0 : List Int), l0.length ≤ maxLen → l0.length * 1 ≤ 140737488351232 → (∀ x ∈ l0, (Lit.int .u8 x).wf = true) → ∃ k, laws_FnExecuteTutte.f k l0 = some true
theorem laws_FnExecuteTutte.walk (P : laws_FnExecuteTutte.Pure) (a0 : Option Addr) (len0 cap0 : Nat) (z0 : List Int) (w : World) (w0 : (a0 = none ∧ len0 = 0 ∧ cap0 = 0 ∧ z0 = []) ∨ ∃ x, a0 = some x ∧ len0 ≤ cap0 ∧ cap0 ≤ maxLen ∧ z0.length = cap0 ∧ (∀ i, i < z0.length → w.cell? (x.add i) = some (.int .u8 (z0.getD i 0))) ∧ ∀ n ∈ z0, (Lit.int .u8 n).wf = true) (y0 : len0 * 1 ≤ 140737488351232) :
  Calls Tryz.prog 3 #[.slice a0 len0 cap0] w fun e w' => e = .returned (.bool true) ∧ Below w.heap.size w w' := by
 obtain ⟨l0, rfl, hr0, hm0, hw0, hc0⟩ := ReadsInt.ofRowC w0; obtain ⟨k, h⟩ := P l0 hm0 y0 hw0
 refine (laws_FnExecuteTutte.calls k _ _ l0 true w (Kd.C_of_reads (d := (0 : Int)) (h1 := fun _ => rfl) hr0) hc0 h).mono ?_
 rintro e w' ⟨rfl, hd⟩
 exact ⟨rfl, hd⟩

end Go.Proofs.YtjebcgbmlbemcaaGreatDoor.PFnExecuteTutte
