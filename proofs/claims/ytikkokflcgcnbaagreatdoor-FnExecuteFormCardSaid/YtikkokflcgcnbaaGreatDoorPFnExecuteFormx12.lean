-- Made by a program of this session (wip/tools) out of the loaded program; not trusted: Lean checks it.
import Derived.Test.YtikkokflcgcnbaaGreatDoorPFnExecuteFormx0
import Derived.Test.YtikkokflcgcnbaaGreatDoorPFnExecuteFormx8
import Derived.Test.YtikkokflcgcnbaaGreatDoorPFnExecuteFormx9
import Derived.Test.YtikkokflcgcnbaaGreatDoorPFnExecuteFormx11
-- packed
namespace Go.Proofs.YtikkokflcgcnbaaGreatDoor.PFnExecuteForm
open Go.RowKit Go.Proofs.YtikkokflcgcnbaaGreatDoorW.PrintWords Go.Proofs.YtikkokflcgcnbaaGreatDoorW.PrintLast Go.Proofs.YtikkokflcgcnbaaGreatDoorW.PrintMore
attribute [local go_sem] max2_int min2_int max_two min_two max_three min_three max_four min_four   -- for this text's walks alone
set_option linter.unusedVariables false
set_option linter.unusedSimpArgs false

/-! ### spec_l6Open: function 28 -/
def spec_l6Open.f (l0 : List Int) : Option (List Int × Int) := if (l0.length : Int) > 2000 then (if 2000 ≤ (l0.length : Int) then (some (l0.take 2000, 0)) else (none)) else (some (l0, 0))
set_option maxHeartbeats 8000000 in
set_option maxRecDepth 100000 in
theorem spec_l6Open.calls (A0 : Option Addr) (c0 : Nat) (l0 : List Int) (r1 : List Int) (r2 : Int) (w0 w : World) (hB : Below w0.heap.size w0 w) (hr0 : Kd.C (Kd.int .u8) w0 A0 l0.length l0) (hc0 : l0.length ≤ c0) (h : spec_l6Open.f l0 = some (r1, r2)) :
    Calls Tryz.prog 28 #[.slice A0 l0.length c0] w fun e w' => ∃ g_ : Nat, e = .returned (.pointer (some ⟨g_, 0, none⟩)) ∧ IsS75 w0 w' g_ r1 r2 ∧ Below w0.heap.size w0 w' ∧ Below w.heap.size w w' := by
 have hu75 := Tryz.underlying75; have HR0 := A0_ hr0; have HC0 := A0_ hc0; clear hr0 hc0
 have HBW := A0_ (Below.refl w.heap.size w)
 have HW0 := A0_ hB.size; have HB := A0_ hB; clear hB
 have H : (if (l0.length : Int) > 2000 then (if 2000 ≤ (l0.length : Int) then (some (l0.take 2000, 0)) else (none)) else (some (l0, 0))) = some (r1, r2) := h
 clear h
 by_cases c2 : (l0.length : Int) > 2000
 ·rw [if_pos c2] at H
  have c2b0 : decide (2000 < (l0.length : Int)) = true := dT c2
  have c2b1 : decide (2000 < l0.length) = true := dT (by omega)
  clear c2
  by_cases c3 : 2000 ≤ (l0.length : Int)
  ·rw [if_pos c3] at H
   have c3b0 := eq_true c3; have c3b1 := dT c3; clear c3; simp only [Option.some.injEq, Prod.mk.injEq] at H; obtain ⟨rfl, rfl⟩ := H; obtain ⟨i04, hi04, _, hsz4, _⟩ := info_parts info5
   obtain ⟨hcut4, hA4, hC4⟩ := print_take_of (P := Tryz.prog) (Value.int .u8) 0 22 5 .i64 Tryz.underlying22 hi04 hsz4 A0 c0 l0 2000 (by omega) (zd) HC0.out
   have HR348 := A0_ (Kd.C_of_reads (h1 := fun _ => rfl) (hA4 _ (Kd.reads_of_C HR0.out)))
   have HC348 := A0_ hC4; clear hA4 hC4 hi04 hsz4
   go_enter Tryz.func28, Tryz.ntmps28
   go_wp2_with (first | ((with_reducible refine gD (N := 10) rfl ?_); refine zX (N := 10) (cs := #[.slice A0 (l0.take 2000).length c0, .int .i64 0]) (t := 75) ?_; intro gb349 hg w5 hbox hb; replace HB := zB HB hb; have BK349 := A0_ (hbox); have GW349 := A0_ ((by rw [hg]; exact (bZ (by repeat (first | (with_reducible first | exact HBW.out | apply bA | apply bN | apply bD) | exact HBW.out))) : w.heap.size ≤ gb349)); have GE349 := A0_ ((Nat.le_trans HW0.out (by rw [hg]; exact (bZ (by repeat (first | (with_reducible first | exact HBW.out | apply bA | apply bN | apply bD) | exact HBW.out))) : w.heap.size ≤ gb349) : w0.heap.size ≤ gb349)); replace HBW := A0_ (bT HBW.out hb); clear hb hbox hg))
   go_ret
   exact ⟨_, rfl, (show IsS75 w0 _ gb349 (l0.take 2000) 0 from ⟨_, _, zK_ BK349, GE349.out, HR348.out⟩), zB_ HB, by repeat (first | (with_reducible first | exact HBW.out | apply bA | apply bN | apply bD | refine bS ?_ GW349.out) | exact HBW.out)⟩
  rw [if_neg c3] at H
  exact absurd H (by simp)
 rw [if_neg c2] at H
 have c2b0 : decide (2000 < (l0.length : Int)) = false := dF c2
 have c2b1 : decide (2000 < l0.length) = false := dF (by omega)
 clear c2; simp only [Option.some.injEq, Prod.mk.injEq] at H; obtain ⟨rfl, rfl⟩ := H
 go_enter Tryz.func28, Tryz.ntmps28
 go_wp2_with (first | ((with_reducible refine gD (N := 10) rfl ?_); refine zX (N := 10) (cs := #[.slice A0 l0.length c0, .int .i64 0]) (t := 75) ?_; intro gb350 hg w6 hbox hb; replace HB := zB HB hb; have BK350 := A0_ (hbox); have GW350 := A0_ ((by rw [hg]; exact (bZ (by repeat (first | (with_reducible first | exact HBW.out | apply bA | apply bN | apply bD) | exact HBW.out))) : w.heap.size ≤ gb350)); have GE350 := A0_ ((Nat.le_trans HW0.out (by rw [hg]; exact (bZ (by repeat (first | (with_reducible first | exact HBW.out | apply bA | apply bN | apply bD) | exact HBW.out))) : w.heap.size ≤ gb350) : w0.heap.size ≤ gb350)); replace HBW := A0_ (bT HBW.out hb); clear hb hbox hg))
 go_ret
 exact ⟨_, rfl, (show IsS75 w0 _ gb350 l0 0 from ⟨_, _, zK_ BK350, GE350.out, HR0.out⟩), zB_ HB, by repeat (first | (with_reducible first | exact HBW.out | apply bA | apply bN | apply bD | refine bS ?_ GW350.out) | exact HBW.out)⟩

/-! ### spec_l91At: function 52 -/
def spec_l91At.j0 : Nat → Int → Bool → List Int → Int → Option (Int × Int)
  | 0, _, _, _, _ => none
  | k + 1, x1, x11, x1000, x1001 => if x11 = true then ((some (([(-1), x1] : List Int) : List Int)).bind fun y353 => ((spec_l6Rd_pick.f k x1000 x1001 2).bind fun bt356 => (if 0 ≤ bt356.1 then (if bt356.1 < (y353.length : Int) then (some (rd y353 bt356.1, bt356.2)) else (none)) else (none)))) else ((spec_l6Rd_pick.f k x1000 x1001 x1).bind fun bt359 => (some (bt359.1, bt359.2)))
def spec_l91At.f (k : Nat) (s0_0 : List Int) (s0_1 : Int) (a1 : Int) : Option (Int × Int) := if a1 = 0 then (spec_l91At.j0 k a1 true s0_0 s0_1) else ((spec_l6Rd_pick.f k s0_0 s0_1 20).bind fun bt351 => (spec_l91At.j0 k a1 (bt351.1 == 0) s0_0 bt351.2))
set_option maxHeartbeats 8000000 in
set_option maxRecDepth 100000 in
theorem spec_l91At.calls (k : Nat) (g : Nat) (s0_0 : List Int) (s0_1 : Int) (a1 : Int) (r1 : Int) (r2 : Int) (w0 w : World) (hI : IsS75 w0 w g s0_0 s0_1) (hB : Below w0.heap.size w0 w) (h : spec_l91At.f k s0_0 s0_1 a1 = some (r1, r2)) :
    Calls Tryz.prog 52 #[.pointer (some ⟨g, 0, none⟩), .int .i64 a1] w fun e w' => e = .returned (.int .i64 r1) ∧ IsS75 w0 w' g s0_0 r2 ∧ Below w0.heap.size w0 w' ∧ KeepBut w w' g none := by
 have HI0 := A0_ hI
 have HK := A0_ (KeepBut.refl w g none)
 have HL := A0_ hB.size; clear hI; have HW0 := A0_ hB.size; have HB := A0_ hB; clear hB
 have H : (if a1 = 0 then (spec_l91At.j0 k a1 true s0_0 s0_1) else ((spec_l6Rd_pick.f k s0_0 s0_1 20).bind fun bt351 => (spec_l91At.j0 k a1 (bt351.1 == 0) s0_0 bt351.2))) = some (r1, r2) := h
 clear h; have HC3 := A0_ H; clear H
 go_enter Tryz.func52, Tryz.ntmps52
 go_upto_region 1 with (fail)
 go_cut [11] (fun v11 wc => ∃ (kq : Nat) (x11_2 : Bool) (x1001_2 : Int), v11 = .bool x11_2 ∧ Aside0 (spec_l91At.j0 kq a1 x11_2 s0_0 x1001_2 = some (r1, r2)) ∧ Aside0 (kq ≤ k) ∧ Aside0 (IsS75 w0 wc g s0_0 x1001_2) ∧ Aside0 (KeepBut w wc g none) ∧ Aside0 (Below w0.heap.size w0 wc))
 case first =>
  have H := HC3.out; clear HC3
  by_cases c4 : a1 = 0
  ·rw [if_pos c4] at H
   have c4b0 : (a1 == 0) = true := beq_iff_eq.mpr c4
   have c4b1 : (a1 != 0) = false := bne_eq_false_iff_eq.mpr c4
   clear c4
   (first | rw [c4b0] | (simp only [i64_w, i32_w]; rw [c4b0]) | skip)
   have H' := A0_ H; clear H
   go_wp2
   go_meet
   case rel => exact ⟨_, (true), (s0_1), zt, H', zo, ⟨by repeat (first | (with_reducible first | exact HI0.out | apply IsS75.alloc | apply IsS75.drewN | apply IsS75.drew | apply IsS75.set_1) | exact HI0.out)⟩, ⟨by repeat (first | (with_reducible first | exact HK.out | apply KeepBut.set_ | apply keep_drewN | apply keep_drew | apply keep_alloc) | exact HK.out)⟩, ⟨by repeat (first | (with_reducible first | exact HB.out | apply bA | apply bN | apply bD | refine bS ?_ (IsS75.ge HI0.out)) | exact HB.out)⟩⟩
  rw [if_neg c4] at H
  have c4b0 : (a1 == 0) = false := beq_eq_false_iff_ne.mpr c4
  have c4b1 : (a1 != 0) = true := bne_iff_ne.mpr c4
  (first | rw [c4b0] | (simp only [i64_w, i32_w]; rw [c4b0]) | skip)
  obtain ⟨⟨t351, t352⟩, A5, H⟩ := zbind H; dsimp only at H; have H' := A0_ H; clear H
  go_wp2_with (first | (go_at_call 57; (with_reducible refine (spec_l6Rd_pick.calls k g s0_0 s0_1 20 t351 t352 w0 _ ?side1 ?side2 A5.out).mono ?_); (case side1 => repeat (first | (with_reducible first | exact HI0.out | apply IsS75.alloc | apply IsS75.drewN | apply IsS75.drew | apply IsS75.set_1) | exact HI0.out)); (case side2 => repeat (first | (with_reducible first | exact HB.out | apply bA | apply bN | apply bD | refine bS ?_ (IsS75.ge HI0.out)) | exact HB.out)); rintro e w6 ⟨rfl, hi, hb, hk⟩; replace HK := A0_ (KeepBut.trans (by repeat (first | (with_reducible first | exact HK.out | apply KeepBut.set_ | apply keep_drewN | apply keep_drew | apply keep_alloc) | exact HK.out)) hk (.inl rfl)); replace HB := A0_ (hb); replace HI0 := A0_ (hi); (try clear hb)))
  go_meet
  case rel => exact ⟨_, ((t351 == 0)), (t352), zt, H', zo, ⟨by repeat (first | (with_reducible first | exact HI0.out | apply IsS75.alloc | apply IsS75.drewN | apply IsS75.drew | apply IsS75.set_1) | exact HI0.out)⟩, ⟨by repeat (first | (with_reducible first | exact HK.out | apply KeepBut.set_ | apply keep_drewN | apply keep_drew | apply keep_alloc) | exact HK.out)⟩, ⟨by repeat (first | (with_reducible first | exact HB.out | apply bA | apply bN | apply bD | refine bS ?_ (IsS75.ge HI0.out)) | exact HB.out)⟩⟩
 case rest =>
  clear HC3; (try clear p2); (try clear c4); (try clear c4b0); (try clear c4b1); (try clear c5); obtain ⟨kq, x11_2, x1001_2, rfl, HA, HJ2, HI0, HK, HB⟩ := hcut
  cases kq with
  | zero => exact absurd HA.out (by simp [spec_l91At.j0])
  | succ kj2 =>
   have H := HA.out; clear HA; simp only [spec_l91At.j0] at H
   by_cases c7 : x11_2 = true
   ·subst c7
    have H1 : ((some (([(-1), a1] : List Int) : List Int)).bind fun y353 => ((spec_l6Rd_pick.f kj2 s0_0 x1001_2 2).bind fun bt356 => (if 0 ≤ bt356.1 then (if bt356.1 < (y353.length : Int) then (some (rd y353 bt356.1, bt356.2)) else (none)) else (none)))) = some (r1, r2) := by rw [if_pos rfl] at H; exact H
    clear H; have H := H1; clear H1
    obtain ⟨y353, hy353⟩ : ∃ y_ : List Int, y_ = (([(-1), a1] : List Int)) := ⟨_, rfl⟩
    replace H : ((spec_l6Rd_pick.f kj2 s0_0 x1001_2 2).bind fun bt356 => (if 0 ≤ bt356.1 then (if bt356.1 < (y353.length : Int) then (some (rd y353 bt356.1, bt356.2)) else (none)) else (none))) = some (r1, r2) := zH hy353 H
    have Ny353 := A0_ hy353; clear hy353; obtain ⟨⟨t356, t357⟩, A8, H⟩ := zbind H; dsimp only at H
    by_cases c9 : 0 ≤ t356
    ·rw [if_pos c9] at H
     have c9b0 := dT c9; clear c9
     by_cases c10 : t356 < (y353.length : Int)
     ·rw [if_pos c10] at H
      have c10b0 := dT c10; clear c10; simp only [Option.some.injEq, Prod.mk.injEq] at H; obtain ⟨rfl, rfl⟩ := H
      go_wp2_with (first | ((with_reducible refine gD (N := 13) rfl ?_); refine Kd.R_lit (Kd.int .i64) _ 3 ?hg (N := 13) ?hd (xs := ([(-1), a1] : List Int)) (inner := [.int .i64 (-1), .int .i64 a1]) (ok := fun _ => True) (okp := fun _ => True) ?hr ?hp (fun _ hk => hk) trivial (Below.refl _ _) (Nat.le_refl _) (by simp) ?_; (case hd => rfl); (case hg => rfl); (case hr => first | (go_simp; done) | (go_simp; rfl)); (case hp => exact (Reps.one (show Kd.M (Kd.int .i64) _ _ _ (-1) [.int .i64 (-1)] from rfl) (Reps.one (show Kd.M (Kd.int .i64) _ _ _ a1 [.int .i64 a1] from rfl) (Reps.none _ _)))); intro v354 w11 ho12 hb hg_ hnew_; clear hg_ hnew_; (first | rw [← Ny353.out] at ho12 | (simp only [Int.reduceToNat] at ho12; rw [← Ny353.out] at ho12)); have HO355 := A0_ (rL ho12 (keep_size (w := w) (g := g) (row := none) (by repeat (first | (with_reducible first | exact HK.out | apply KeepBut.set_ | apply keep_drewN | apply keep_drew | apply keep_alloc) | exact HK.out)))); replace HK := A0_ (KeepBut.trans (by repeat (first | (with_reducible first | exact HK.out | apply KeepBut.set_ | apply keep_drewN | apply keep_drew | apply keep_alloc) | exact HK.out)) (KeepBut.of_below hb g none) (.inl rfl)); replace HB := A0_ (bT (by repeat (first | (with_reducible first | exact HB.out | apply bA | apply bN | apply bD | refine bS ?_ (IsS75.ge HI0.out)) | exact HB.out)) hb); replace HI0 := A0_ (IsS75.below (by repeat (first | (with_reducible first | exact HI0.out | apply IsS75.alloc | apply IsS75.drewN | apply IsS75.drew | apply IsS75.set_1) | exact HI0.out)) hb); clear hb ho12) | ((with_reducible refine gC (f := 57) rfl ?_); refine zJ (some 15) Tryz.func57 #[.pointer (some ⟨g, 0, none⟩), .int .i64 2] ?_; (with_reducible refine (spec_l6Rd_pick.calls kj2 g s0_0 x1001_2 2 t356 t357 w0 _ ?side1 ?side2 A8.out).mono ?_); (case side1 => repeat (first | (with_reducible first | exact HI0.out | apply IsS75.alloc | apply IsS75.drewN | apply IsS75.drew | apply IsS75.set_1) | exact HI0.out)); (case side2 => repeat (first | (with_reducible first | exact HB.out | apply bA | apply bN | apply bD | refine bS ?_ (IsS75.ge HI0.out)) | exact HB.out)); rintro e w13 ⟨rfl, hi, hb, hk⟩; refine ⟨_, rfl, ?_⟩; replace HO355 := A0_ (rM (Kd.R_keep (IsS75.apart (show IsS75 w0 _ g s0_0 x1001_2 from by repeat (first | (with_reducible first | exact HI0.out | apply IsS75.alloc | apply IsS75.drewN | apply IsS75.drew | apply IsS75.set_1) | exact HI0.out)) (zR_ HO355) (by decide)) hk (fun _ h => h.2)) (fun _ h => h.1)); replace HK := A0_ (KeepBut.trans (by repeat (first | (with_reducible first | exact HK.out | apply KeepBut.set_ | apply keep_drewN | apply keep_drew | apply keep_alloc) | exact HK.out)) hk (.inl rfl)); replace HB := A0_ (hb); replace HI0 := A0_ (hi); (try clear hb); obtain ⟨Ao14, co14, eo14⟩ := rS HO355.out; subst eo14; have p358 : 0 ≤ (t356 : Int) := zd; have q358 : t356 < (y353.length : Int) := zd; obtain ⟨ad358, e358, hx358_0⟩ := tI (rR HO355.out).2.2 t356 p358 q358; cases e358; replace p358 := eq_true p358; replace q358 := eq_true q358))
      go_ret
      exact ⟨by first | rfl | (simp [*] <;> rfl), by repeat (first | (with_reducible first | exact HI0.out | apply IsS75.alloc | apply IsS75.drewN | apply IsS75.drew | apply IsS75.set_1) | exact HI0.out), by repeat (first | (with_reducible first | exact HB.out | apply bA | apply bN | apply bD | refine bS ?_ (IsS75.ge HI0.out)) | exact HB.out), by repeat (first | (with_reducible first | exact HK.out | apply KeepBut.set_ | apply keep_drewN | apply keep_drew | apply keep_alloc) | exact HK.out)⟩
     rw [if_neg c10] at H
     exact absurd H (by simp)
    rw [if_neg c9] at H
    exact absurd H (by simp)
   replace c7 := Bool.eq_false_iff.mpr c7; subst c7
   have H1 : ((spec_l6Rd_pick.f kj2 s0_0 x1001_2 a1).bind fun bt359 => (some (bt359.1, bt359.2))) = some (r1, r2) := by rw [if_neg (show ¬ (false = true) by decide)] at H; exact H
   clear H; have H := H1; clear H1; obtain ⟨⟨t359, t360⟩, A15, H⟩ := zbind H
   replace H : (some (t359, t360)) = some (r1, r2) := H
   simp only [Option.some.injEq, Prod.mk.injEq] at H; obtain ⟨rfl, rfl⟩ := H
   go_wp2_with (first | ((with_reducible refine gC (f := 57) rfl ?_); refine zJ (some 20) Tryz.func57 #[.pointer (some ⟨g, 0, none⟩), .int .i64 a1] ?_; (with_reducible refine (spec_l6Rd_pick.calls kj2 g s0_0 x1001_2 a1 t359 t360 w0 _ ?side1 ?side2 A15.out).mono ?_); (case side1 => repeat (first | (with_reducible first | exact HI0.out | apply IsS75.alloc | apply IsS75.drewN | apply IsS75.drew | apply IsS75.set_1) | exact HI0.out)); (case side2 => repeat (first | (with_reducible first | exact HB.out | apply bA | apply bN | apply bD | refine bS ?_ (IsS75.ge HI0.out)) | exact HB.out)); rintro e w16 ⟨rfl, hi, hb, hk⟩; refine ⟨_, rfl, ?_⟩; replace HK := A0_ (KeepBut.trans (by repeat (first | (with_reducible first | exact HK.out | apply KeepBut.set_ | apply keep_drewN | apply keep_drew | apply keep_alloc) | exact HK.out)) hk (.inl rfl)); replace HB := A0_ (hb); replace HI0 := A0_ (hi); (try clear hb)))
   go_ret
   exact ⟨by first | rfl | (simp [*] <;> rfl), by repeat (first | (with_reducible first | exact HI0.out | apply IsS75.alloc | apply IsS75.drewN | apply IsS75.drew | apply IsS75.set_1) | exact HI0.out), by repeat (first | (with_reducible first | exact HB.out | apply bA | apply bN | apply bD | refine bS ?_ (IsS75.ge HI0.out)) | exact HB.out), by repeat (first | (with_reducible first | exact HK.out | apply KeepBut.set_ | apply keep_drewN | apply keep_drew | apply keep_alloc) | exact HK.out)⟩

/-! ### spec_DrawMapForm: function 24 -/
def spec_DrawMapForm.f (k : Nat) (l0 : List Int) : Option (List Int × List Int × Int) := (spec_l6Open.f l0).bind fun bt362 => ((spec_l91Map.f k bt362.1 bt362.2 5).bind fun bt365 => ((spec_l91At.f k bt362.1 bt365.2.2 (bt365.1.length : Int)).bind fun bt373 => (some (bt365.1, bt365.2.1, bt373.1))))
def spec_DrawMapForm.T3 : Bool × List (List Nat × List Nat) := (true, [([], []), ([], []), ([], []), ([2], [2]), ([3], [3]), ([1, 4], [1, 4]), ([0, 5, 0], [0]), ([5, 6, 0, 1, 2, 3, 4, 5, 6], [5])])
def spec_DrawMapForm.B3 : List Nat := [0, 0, 0, 4, 12, 30, 63, 127]
theorem spec_DrawMapForm.tab3 : rtab .any (opsOf Tryz.f24 3) = spec_DrawMapForm.T3 := by kernel_rfl
theorem spec_DrawMapForm.bits3 : waitsOk spec_DrawMapForm.T3.2 spec_DrawMapForm.B3 = true := by kernel_rfl
set_option maxHeartbeats 8000000 in
set_option maxRecDepth 100000 in
theorem spec_DrawMapForm.calls (k : Nat) (A0 : Option Addr) (c0 : Nat) (l0 : List Int) (r1 : List Int) (r2 : List Int) (r3 : Int) (w : World) (hr0 : Kd.C (Kd.int .u8) w A0 l0.length l0) (hc0 : l0.length ≤ c0) (h : spec_DrawMapForm.f k l0 = some (r1, r2, r3)) :
    Calls Tryz.prog 24 #[.slice A0 l0.length c0] w fun e w' => ∃ v0_ v1_ : Value, e = .returned (.tuple #[.agg #[v0_, v1_], .int .i64 r3]) ∧ Kd.Q (Kd.int .i64) 3 w' w.heap.size (fun k_ => some k_ ≠ (v1_ : Value).ownBlock) v0_ r1 ∧ Kd.R (Kd.int .i64) 3 w' w.heap.size (fun k_ => some k_ ≠ (v0_ : Value).ownBlock) v1_ r2 ∧ Below w.heap.size w w' := by
 have hu25 := Tryz.underlying25; have HR0 := A0_ hr0; have HC0 := A0_ hc0; clear hr0 hc0
 have HB := A0_ (Below.refl w.heap.size w)
 have H : ((spec_l6Open.f l0).bind fun bt362 => ((spec_l91Map.f k bt362.1 bt362.2 5).bind fun bt365 => ((spec_l91At.f k bt362.1 bt365.2.2 (bt365.1.length : Int)).bind fun bt373 => (some (bt365.1, bt365.2.1, bt373.1))))) = some (r1, r2, r3) := h
 clear h; obtain ⟨⟨t362, t363⟩, A2, H⟩ := zbind H; dsimp only at H; obtain ⟨⟨t365, t368, t371⟩, A3, H⟩ := zbind H; dsimp only at H; obtain ⟨⟨t373, t374⟩, A4, H⟩ := zbind H; dsimp only at H; simp only [Option.some.injEq, Prod.mk.injEq] at H; obtain ⟨rfl, rfl, rfl⟩ := H
 go_enter Tryz.func24, Tryz.ntmps24
 try go_wp2_with (first | ((with_reducible refine gD (N := 2) rfl ?_); refine zX (N := 2) (cs := #[.slice none 0 0, .slice none 0 0]) (t := 25) ?_; intro gb361 hg w5 hbox hb; have BK361 := A0_ (hbox); have GW361 := zG hg HB; have GE361 := zG hg HB; replace HB := zB HB hb; clear hb hbox hg) | ((with_reducible refine gC (f := 28) rfl ?_); refine zJ (some 7) Tryz.func28 #[.slice A0 l0.length c0] ?_; (with_reducible refine (spec_l6Open.calls _ _ l0 t362 t363 w _ ?side1 ?side2 ?side3 A2.out).mono ?_); (case side1 => repeat (first | (with_reducible first | exact HB.out | apply bA | apply bN | apply bD | refine bS ?_ GE361.out) | exact HB.out)); (case side2 => exact HR0.out); (case side3 => exact HC0.out); rintro e w6 ⟨g364, rfl, hi, hb, hb2⟩; refine ⟨_, rfl, ?_⟩; replace HB := A0_ (hb); have HI364 := A0_ (hi); have NB364_361 := A0_ (IsS75.ne_blk hi (kB (g := gb361) (o := .cells #[.slice none 0 0, .slice none 0 0] 25 (0, 0)) (zK_ BK361) hb2) (by decide)); have NB361_364 := A0_ (Ne.symm (IsS75.ne_blk hi (kB (g := gb361) (o := .cells #[.slice none 0 0, .slice none 0 0] 25 (0, 0)) (zK_ BK361) hb2) (by decide))); replace BK361 := A0_ (kB (g := gb361) (o := .cells #[.slice none 0 0, .slice none 0 0] 25 (0, 0)) (zK_ BK361) hb2); (try clear hb)) | ((with_reducible refine gC (f := 27) rfl ?_); refine zJ (some 9) Tryz.func27 #[.pointer (some ⟨g364, 0, none⟩), .int .i64 5] ?_; (with_reducible refine (spec_l91Map.calls k g364 t362 t363 5 t365 t368 t371 w _ ?side1 ?side2 A3.out).mono ?_); (case side1 => repeat (first | (with_reducible first | exact HI364.out | apply IsS75.alloc | apply IsS75.drewN | apply IsS75.drew | apply IsS75.set_1 | refine IsS75.far ?_ NB364_361.out _) | exact HI364.out)); (case side2 => repeat (first | (with_reducible first | exact HB.out | apply bA | apply bN | apply bD | refine bS ?_ (IsS75.ge HI364.out) | refine bS ?_ GE361.out) | exact HB.out)); rintro e w7 ⟨v366, v369, rfl, ho0, ho1, hi, hb, hk⟩; refine ⟨_, rfl, ?_⟩; replace BK361 := A0_ (KeepBut.blk hk (g' := gb361) (o := .cells #[.slice none 0 0, .slice none 0 0] 25 (0, 0)) (zK_ BK361) NB361_364.out (by simp)); have HO367 := A0_ (Kd.Q_lower ho0 (bZ (by repeat (first | (with_reducible first | exact HB.out | apply bA | apply bN | apply bD | refine bS ?_ (IsS75.ge HI364.out) | refine bS ?_ GE361.out) | exact HB.out)))); have HO370 := A0_ (rL ho1 (bZ (by repeat (first | (with_reducible first | exact HB.out | apply bA | apply bN | apply bD | refine bS ?_ (IsS75.ge HI364.out) | refine bS ?_ GE361.out) | exact HB.out)))); replace HB := A0_ (hb); replace HI364 := A0_ (hi); (try clear hb); (try clear ho0); (try clear ho1)) | ((with_reducible refine gD (N := 5) rfl ?_); refine zX (N := 5) (cs := #[.slice none 0 0, .slice none 0 0]) (t := 25) ?_; intro gb372 hg w8 hbox hb; replace HO367 := A0_ (Kd.Q_below (zQ_ HO367) hb); replace HO370 := zR HO370 hb; have BK372 := A0_ (hbox); have GW372 := A0_ ((by rw [hg]; exact (bZ (by repeat (first | (with_reducible first | exact HB.out | apply bA | apply bN | apply bD | refine bS ?_ (IsS75.ge HI364.out) | refine bS ?_ GE361.out) | exact HB.out))) : w.heap.size ≤ gb372)); have GE372 := A0_ ((by rw [hg]; exact (bZ (by repeat (first | (with_reducible first | exact HB.out | apply bA | apply bN | apply bD | refine bS ?_ (IsS75.ge HI364.out) | refine bS ?_ GE361.out) | exact HB.out))) : w.heap.size ≤ gb372)); replace HB := A0_ (bT (by repeat (first | (with_reducible first | exact HB.out | apply bA | apply bN | apply bD | refine bS ?_ (IsS75.ge HI364.out) | refine bS ?_ GE361.out) | exact HB.out)) hb); have NB361_372 := zL hg BK361; have NB372_361 := zM hg BK361; replace BK361 := zK BK361 hb; have NB364_372 := A0_ ((by rw [hg]; exact Nat.ne_of_lt (IsS75.lt (show IsS75 w _ g364 t362 t371 from by repeat (first | (with_reducible first | exact HI364.out | apply IsS75.alloc | apply IsS75.drewN | apply IsS75.drew | apply IsS75.set_1 | refine IsS75.far ?_ NB364_361.out _) | exact HI364.out))) : g364 ≠ gb372)); have NB372_364 := A0_ ((by rw [hg]; exact Nat.ne_of_gt (IsS75.lt (show IsS75 w _ g364 t362 t371 from by repeat (first | (with_reducible first | exact HI364.out | apply IsS75.alloc | apply IsS75.drewN | apply IsS75.drew | apply IsS75.set_1 | refine IsS75.far ?_ NB364_361.out _) | exact HI364.out))) : gb372 ≠ g364)); replace HI364 := A0_ (IsS75.below (by repeat (first | (with_reducible first | exact HI364.out | apply IsS75.alloc | apply IsS75.drewN | apply IsS75.drew | apply IsS75.set_1 | refine IsS75.far ?_ NB364_361.out _) | exact HI364.out)) hb); clear hb hbox hg; obtain ⟨Ao9, co9, eo9, _⟩ := Kd.Q_slice HO367.out; subst eo9; have hnb10 := NB372_361.out; have hnc10 := NB361_372.out; have hnb11 := NB372_364.out; have hnc11 := NB364_372.out; have hcz12_0 := zc0 BK372; have hcz12_1 := zc1 BK372; have hfz12_0 := kF BK372.out 0; have hfz12_1 := kF BK372.out 1; obtain ⟨Ao13, co13, eo13⟩ := rS HO370.out; subst eo13))
 have n0_ : Aside0 (Kd.Q (Kd.int .i64) 3 ((w8.setCell ⟨gb372, 0, none⟩ (.slice Ao9 t365.length co9)).setCell ⟨gb372, 1, none⟩ (.slice Ao13 t368.length co13)) w.heap.size (fun k_ => some k_ ≠ (.slice Ao13 t368.length co13 : Value).ownBlock) (.slice Ao9 t365.length co9) t365) := ⟨by (with_reducible repeat (first | apply Kd.Q_alloc | apply Kd.Q_drewN | apply Kd.Q_drew)); exact Kd.Q_mono (Kd.Q_far (p := ⟨gb372, 1, none⟩) (Kd.Q_far (p := ⟨gb372, 0, none⟩) (Kd.Q_types HO367.out BK372.out (by decide)) (fun _ hk => hk.2) (.slice Ao9 t365.length co9)) (fun _ hk => hk.2) (.slice Ao13 t368.length co13)) (fun _ hk => hk.1)⟩
 have n1_ : Aside0 (Kd.R (Kd.int .i64) 3 ((w8.setCell ⟨gb372, 0, none⟩ (.slice Ao9 t365.length co9)).setCell ⟨gb372, 1, none⟩ (.slice Ao13 t368.length co13)) w.heap.size (fun k_ => some k_ ≠ (.slice Ao9 t365.length co9 : Value).ownBlock) (.slice Ao13 t368.length co13) t368) := ⟨zF HO370 BK372 (.slice Ao9 t365.length co9) (.slice Ao13 t368.length co13) 0 1⟩
 have n2_ : Aside0 (((w8.setCell ⟨gb372, 0, none⟩ (.slice Ao9 t365.length co9)).setCell ⟨gb372, 1, none⟩ (.slice Ao13 t368.length co13)).heap[gb361]? = some (.cells #[.slice none 0 0, .slice none 0 0] 25 (0, 0))) := ⟨by (with_reducible repeat (first | refine kN ?_ _ | refine kD ?_ | refine kA ?_ _)); refine blk_far ?_ NB361_372.out _; (with_reducible repeat (first | refine kN ?_ _ | refine kD ?_ | refine kA ?_ _)); refine blk_far ?_ NB361_372.out _; (with_reducible repeat (first | refine kN ?_ _ | refine kD ?_ | refine kA ?_ _)); exact BK361.out⟩
 have n3_ : Aside0 (((w8.setCell ⟨gb372, 0, none⟩ (.slice Ao9 t365.length co9)).setCell ⟨gb372, 1, none⟩ (.slice Ao13 t368.length co13)).heap[gb372]? = some (.cells #[.slice Ao9 t365.length co9, .slice Ao13 t368.length co13] 25 (0, 0))) := ⟨by (with_reducible repeat (first | refine kN ?_ _ | refine kD ?_ | refine kA ?_ _)); refine blk_put (cs := #[.slice Ao9 t365.length co9, .slice none 0 0]) ?_ 1 _ rfl; (with_reducible repeat (first | refine kN ?_ _ | refine kD ?_ | refine kA ?_ _)); refine blk_put (cs := #[.slice none 0 0, .slice none 0 0]) ?_ 0 _ rfl; (with_reducible repeat (first | refine kN ?_ _ | refine kD ?_ | refine kA ?_ _)); exact BK372.out⟩
 have n4_ : Aside0 (IsS75 w ((w8.setCell ⟨gb372, 0, none⟩ (.slice Ao9 t365.length co9)).setCell ⟨gb372, 1, none⟩ (.slice Ao13 t368.length co13)) g364 t362 t371) := ⟨by repeat (first | (with_reducible first | exact HI364.out | apply IsS75.alloc | apply IsS75.drewN | apply IsS75.drew | apply IsS75.set_1 | refine IsS75.far ?_ NB364_361.out _ | refine IsS75.far ?_ NB364_372.out _) | exact HI364.out)⟩
 have n5_ : Aside0 (Below w.heap.size w ((w8.setCell ⟨gb372, 0, none⟩ (.slice Ao9 t365.length co9)).setCell ⟨gb372, 1, none⟩ (.slice Ao13 t368.length co13))) := ⟨by repeat (first | (with_reducible first | exact HB.out | apply bA | apply bN | apply bD | refine bS ?_ (IsS75.ge HI364.out) | refine bS ?_ GE361.out | refine bS ?_ GE372.out) | exact HB.out)⟩
 (try clear HO367); (try clear HO370); (try clear BK361); (try clear BK372); (try clear HI364); (try clear HB)
 generalize ((w8.setCell ⟨gb372, 0, none⟩ (.slice Ao9 t365.length co9)).setCell ⟨gb372, 1, none⟩ (.slice Ao13 t368.length co13)) = w14 at n0_ n1_ n2_ n3_ n4_ n5_ ⊢
 have HO367 := n0_; have HO370 := n1_; have BK361 := n2_; have BK372 := n3_; have HI364 := n4_; have HB := n5_; clear n0_ n1_ n2_ n3_ n4_ n5_
 replace HO367 := A0_ (Kd.Q_drew HO367.out)
 replace HO370 := A0_ (rD HO370.out)
 replace BK361 := A0_ (kD BK361.out)
 replace BK372 := A0_ (kD BK372.out)
 replace HI364 := A0_ (IsS75.drew HI364.out)
 replace HB := A0_ (bD HB.out)
 refine start_ (n := 8) (S := fun w' => w'.cell? ⟨gb372, 0, none⟩ = some (.slice Ao9 t365.length co9) ∧ w'.cell? ⟨gb372, 1, none⟩ = some (.slice Ao13 t368.length co13)) (ds := []) #[false, false, false, false, false, false, false, false] (by kernel_rfl) rfl rfl ⟨(kC BK372.out 0).trans rfl, (kC BK372.out 1).trans rfl⟩ (fun hHeld => ?_); refine with_tabW spec_DrawMapForm.tab3 spec_DrawMapForm.bits3 (fun HT_ HW_ => ?_)
 generalize w14.drew = w15 at HO367 HO370 BK361 BK372 HI364 HB hHeld ⊢
 refine zP 1 (some 11) #[false,true,false,false,false,false,false,false] ?_
 refine zP 2 (some 12) #[false,true,true,false,false,false,false,false] ?_
 refine take_ (i := 0) (N := some 10) (v := ?_) (a' := ?_) #[true, true, true, false, false, false, false, false] rfl rfl (take_ofW HT_.out HW_.out (by kernel_rfl)) (fun _ _ _ h => h) (Or.inl ⟨by rfl, ?_⟩) hHeld ?_ ?_
 rotate_left
 ·rintro w' ⟨s0, s1⟩
  go_simp
  with_reducible rfl
 rotate_left
 ·simp only [Act.put, List.setIfInBounds_toArray, List.set_cons_zero, List.set_cons_succ, i64_w, i32_w]
  rfl
 refine take_ (i := 3) (N := some 13) (v := ?_) (a' := ?_) #[true, true, true, true, false, false, false, false] rfl rfl (take_ofW HT_.out HW_.out (by kernel_rfl)) (fun _ _ _ h => h) (Or.inl ⟨by rfl, ?_⟩) hHeld ?_ ?_
 rotate_left
 ·rintro w' ⟨s0, s1⟩
  go_simp
  with_reducible rfl
 rotate_left
 ·simp only [Act.put, List.setIfInBounds_toArray, List.set_cons_zero, List.set_cons_succ, i64_w, i32_w]
  rfl
 refine zP 4 (some 14) #[true,true,true,true,true,false,false,false] ?_
 refine one_ (i := 5) (N := some 15) #[true, true, true, true, true, true, false, false] rfl rfl (one_of HT_.out (by kernel_rfl)) (by decide) (fun K hK => ?_)
 refine goes_ Tryz.func52 (by kernel_rfl) rfl #[.pointer (some ⟨g364, 0, none⟩), .int .i64 (t365.length : Int)] (by rfl) rfl rfl (by (try simp only [List.map_toArray, List.map_cons, List.map_nil]); first | done | rfl | (simp only [List.length_drop, List.length_take]; rfl)) ?_
 with_reducible refine (spec_l91At.calls k g364 t362 t371 (t365.length : Int) t373 t374 w _ ?side1 ?side2 A4.out).mono ?_
 (case side1 => repeat (first | (with_reducible first | exact HI364.out | apply IsS75.alloc | apply IsS75.drewN | apply IsS75.drew | apply IsS75.set_1 | refine IsS75.far ?_ NB364_361.out _ | refine IsS75.far ?_ NB364_372.out _) | exact HI364.out))
 (case side2 => repeat (first | (with_reducible first | exact HB.out | apply bA | apply bN | apply bD | refine bS ?_ (IsS75.ge HI364.out) | refine bS ?_ GE361.out | refine bS ?_ GE372.out) | exact HB.out))
 rintro e w16 ⟨rfl, hi, hb, hk⟩
 refine ⟨_, rfl, ?_⟩
 replace BK361 := A0_ (KeepBut.blk hk (g' := gb361) (o := .cells #[.slice none 0 0, .slice none 0 0] 25 (0, 0)) (zK_ BK361) NB361_364.out (by simp))
 replace HO367 := A0_ (Kd.Q_mono (Kd.Q_keep (IsS75.apartQ (show IsS75 w _ g364 t362 t371 from by repeat (first | (with_reducible first | exact HI364.out | apply IsS75.alloc | apply IsS75.drewN | apply IsS75.drew | apply IsS75.set_1 | refine IsS75.far ?_ NB364_361.out _ | refine IsS75.far ?_ NB364_372.out _) | exact HI364.out)) (zQ_ HO367) (by decide)) hk (fun _ h => h.2)) (fun _ h => h.1))
 replace HO370 := A0_ (rM (Kd.R_keep (IsS75.apart (show IsS75 w _ g364 t362 t371 from by repeat (first | (with_reducible first | exact HI364.out | apply IsS75.alloc | apply IsS75.drewN | apply IsS75.drew | apply IsS75.set_1 | refine IsS75.far ?_ NB364_361.out _ | refine IsS75.far ?_ NB364_372.out _) | exact HI364.out)) (zR_ HO370) (by decide)) hk (fun _ h => h.2)) (fun _ h => h.1))
 replace BK372 := A0_ (KeepBut.blk hk (g' := gb372) (o := .cells #[.slice Ao9 t365.length co9, .slice Ao13 t368.length co13] 25 (0, 0)) (zK_ BK372) NB372_364.out (by simp))
 replace HB := A0_ (hb)
 replace HI364 := A0_ (hi)
 (try clear hb); (try clear hb2); (try clear hk); (try clear hi)
 refine hK.out _ _ ⟨(kC BK372.out 0).trans rfl, (kC BK372.out 1).trans rfl⟩ (fun hHeld => ?_)
 clear hK K
 refine norm_ (a' := ?_) ?_ ?_
 rotate_left
 ·show Act.put _ (some 15) _ = _
  simp only [Act.put, List.setIfInBounds_toArray, List.set_cons_zero, List.set_cons_succ, i64_w, i32_w]
  rfl
 refine one_ (i := 6) (N := none) #[true, true, true, true, true, true, true, false] rfl rfl (one_of HT_.out (by kernel_rfl)) (by decide) (fun K hK => ?_)
 have hs17 : w16.cell? ⟨gb361, 0, none⟩ = some (.slice none 0 0) := (kC BK361.out 0).trans rfl
 have hfs17 := kF BK361.out 0; have hns17_1 := NB372_361.out; have hms17_1 := NB361_372.out
 have hs18 : w16.cell? ⟨gb361, 1, none⟩ = some (.slice none 0 0) := (kC BK361.out 1).trans rfl
 have hfs18 := kF BK361.out 1; have hns18_1 := NB372_361.out; have hms18_1 := NB361_372.out
 refine skip_ (w1 := ?_) (by rfl) rfl ?_ ?_
 rotate_left
 ·go_simp
  rfl
 refine hK.out _ _ ⟨((cell_far (p := ⟨gb361, _, none⟩) NB372_361.out _).trans (((cell_far (p := ⟨gb361, _, none⟩) NB372_361.out _).trans (hHeld.1)))), ((cell_far (p := ⟨gb361, _, none⟩) NB372_361.out _).trans (((cell_far (p := ⟨gb361, _, none⟩) NB372_361.out _).trans (hHeld.2))))⟩ (fun hHeld => ?_)
 clear hK K
 refine zP 7 (some 3) #[true,true,true,true,true,true,true,true] ?_
 refine done_ (done_of HT_.out (by kernel_rfl)) ?_
 try go_wp2
 refine bodyPost_ret (results_ct rfl _ _ gb361 25 #[.slice Ao9 t365.length co9, .slice Ao13 t368.length co13] (0, 0) _ rfl (by (with_reducible repeat (first | refine kN ?_ _ | refine kD ?_ | refine kA ?_ _)); refine blk_put (cs := #[.slice Ao9 t365.length co9, .slice none 0 0]) ?_ 1 _ rfl; (with_reducible repeat (first | refine kN ?_ _ | refine kD ?_ | refine kA ?_ _)); refine blk_put (cs := #[.slice none 0 0, .slice none 0 0]) ?_ 0 _ rfl; (with_reducible repeat (first | refine kN ?_ _ | refine kD ?_ | refine kA ?_ _)); exact BK361.out) Tryz.underlying25 rfl (by kernel_rfl)) rfl ?_
 exact ⟨_, _, by first | rfl | (simp [*] <;> rfl), by (with_reducible repeat (first | apply Kd.Q_alloc | apply Kd.Q_drewN | apply Kd.Q_drew)); exact Kd.Q_mono (Kd.Q_far (p := ⟨gb361, 1, none⟩) (Kd.Q_far (p := ⟨gb361, 0, none⟩) (Kd.Q_types HO367.out BK361.out (by decide)) (fun _ hk => hk.2) (.slice Ao9 t365.length co9)) (fun _ hk => hk.2) (.slice Ao13 t368.length co13)) (fun _ hk => hk.1), zF HO370 BK361 (.slice Ao9 t365.length co9) (.slice Ao13 t368.length co13) 0 1, by repeat (first | (with_reducible first | exact HB.out | apply bA | apply bN | apply bD | refine bS ?_ (IsS75.ge HI364.out) | refine bS ?_ GE361.out | refine bS ?_ GE372.out) | exact HB.out)⟩

/-! ### spec_l2Dart: function 55 -/
def spec_l2Dart.f (k : Nat) (l0_0 : List Int) (l0_1 : List Int) (a1 : Int) : Option (Bool) := (spec_MapValid.f k l0_0 l0_1).bind fun t376 => (if t376 = true then ((spec_l6In.f a1 0 (wrap64 ((l0_0.length : Int) - 1))).bind fun t377 => (some t377)) else (some false))
set_option maxHeartbeats 8000000 in
set_option maxRecDepth 100000 in
theorem spec_l2Dart.calls (k : Nat) (A0_0 : Option Addr) (c0_0 : Nat) (l0_0 : List Int) (A0_1 : Option Addr) (c0_1 : Nat) (l0_1 : List Int) (a1 : Int) (r : Bool) (w : World) (hr0_0 : Kd.C (Kd.int .i64) w A0_0 l0_0.length l0_0) (hc0_0 : l0_0.length ≤ c0_0) (hr0_1 : Kd.C (Kd.int .i64) w A0_1 l0_1.length l0_1) (hc0_1 : l0_1.length ≤ c0_1) (h : spec_l2Dart.f k l0_0 l0_1 a1 = some r) :
    Calls Tryz.prog 55 #[.agg #[.slice A0_0 l0_0.length c0_0, .slice A0_1 l0_1.length c0_1], .int .i64 a1] w fun e w' => e = .returned (.bool r) ∧ Below w.heap.size w w' := by
 have hu25 := Tryz.underlying25; have HR0_0 := A0_ hr0_0; have HC0_0 := A0_ hc0_0; clear hr0_0 hc0_0; have HR0_1 := A0_ hr0_1; have HC0_1 := A0_ hc0_1; clear hr0_1 hc0_1
 have HB := A0_ (Below.refl w.heap.size w)
 have H : ((spec_MapValid.f k l0_0 l0_1).bind fun t376 => (if t376 = true then ((spec_l6In.f a1 0 (wrap64 ((l0_0.length : Int) - 1))).bind fun t377 => (some t377)) else (some false))) = some r := h
 clear h; obtain ⟨t376, A3, H⟩ := zbind H
 by_cases c4 : t376 = true
 ·subst c4
  rw [if_pos rfl] at H; obtain ⟨t377, A5, H⟩ := zbind H; obtain rfl := sI H
  go_enter Tryz.func55, Tryz.ntmps55
  go_wp2_with (first | ((with_reducible refine gD (N := 2) rfl ?_); refine zX (N := 2) (cs := #[.slice A0_0 l0_0.length c0_0, .slice A0_1 l0_1.length c0_1]) (t := 25) ?_; intro gb375 hg w6 hbox hb; have BK375 := A0_ (hbox); have GW375 := zG hg HB; have GE375 := zG hg HB; replace HB := zB HB hb; clear hb hbox hg; have hcz7_0 := zc0 BK375; have hcz7_1 := zc1 BK375; have hfz7_0 := kF BK375.out 0; have hfz7_1 := kF BK375.out 1) | ((with_reducible refine gC (f := 32) rfl ?_); refine zJ (some 6) Tryz.func32 #[.agg #[.slice A0_0 l0_0.length c0_0, .slice A0_1 l0_1.length c0_1]] ?_; (with_reducible refine (spec_MapValid.calls k _ _ l0_0 _ _ l0_1 true _ ?side1 ?side2 ?side3 ?side4 A3.out).mono ?_); (case side1 => exact zC HR0_0 HB); (case side2 => exact HC0_0.out); (case side3 => exact zC HR0_1 HB); (case side4 => exact HC0_1.out); rintro e w8 ⟨rfl, hb⟩; refine ⟨_, rfl, ?_⟩; replace BK375 := zK BK375 hb; replace HB := zB HB hb; (try clear hb); have hcz9_0 := zc0 BK375; have hcz9_1 := zc1 BK375; have hfz9_0 := kF BK375.out 0; have hfz9_1 := kF BK375.out 1) | (go_at_call 94; (with_reducible refine (spec_l6In.calls a1 0 (wrap64 ((l0_0.length : Int) - 1)) t377 _ A5.out).mono ?_); rintro e w' ⟨rfl, ⟨nd, rfl⟩⟩))
  go_ret
  exact ⟨by first | rfl | (simp [*] <;> rfl), zB_ HB⟩
 replace c4 := Bool.eq_false_iff.mpr c4; subst c4
 rw [if_neg (show ¬ (false = true) by decide)] at H
 obtain rfl := sI H
 go_enter Tryz.func55, Tryz.ntmps55
 go_wp2_with (first | ((with_reducible refine gD (N := 2) rfl ?_); refine zX (N := 2) (cs := #[.slice A0_0 l0_0.length c0_0, .slice A0_1 l0_1.length c0_1]) (t := 25) ?_; intro gb375 hg w10 hbox hb; have BK375 := A0_ (hbox); have GW375 := zG hg HB; have GE375 := zG hg HB; replace HB := zB HB hb; clear hb hbox hg; have hcz11_0 := zc0 BK375; have hcz11_1 := zc1 BK375; have hfz11_0 := kF BK375.out 0; have hfz11_1 := kF BK375.out 1) | ((with_reducible refine gC (f := 32) rfl ?_); refine zJ (some 6) Tryz.func32 #[.agg #[.slice A0_0 l0_0.length c0_0, .slice A0_1 l0_1.length c0_1]] ?_; (with_reducible refine (spec_MapValid.calls k _ _ l0_0 _ _ l0_1 false _ ?side1 ?side2 ?side3 ?side4 A3.out).mono ?_); (case side1 => exact zC HR0_0 HB); (case side2 => exact HC0_0.out); (case side3 => exact zC HR0_1 HB); (case side4 => exact HC0_1.out); rintro e w12 ⟨rfl, hb⟩; refine ⟨_, rfl, ?_⟩; replace BK375 := zK BK375 hb; replace HB := zB HB hb; (try clear hb)))
 go_ret
 exact ⟨by first | rfl | (simp [*] <;> rfl), zB_ HB⟩

/-! ### spec_l1Mul: function 64 -/
def spec_l1Mul.l0 : Nat → List Int → List Int → List Int → Int → Option (List Int)
  | 0, _, _, _, _ => none
  | k + 1, x0, x1, x5, x6 => if x6 < (x0.length : Int) then (if 0 ≤ x6 then (if 0 ≤ (rd x0 x6) then (if (rd x0 x6) < (x1.length : Int) then (if x5.length < 17592186044416 then (spec_l1Mul.l0 k x0 x1 (x5 ++ [rd x1 (rd x0 x6)]) (wrap64 (x6 + 1))) else (none)) else (none)) else (none)) else (none)) else (some x5)
def spec_l1Mul.f (k : Nat) (l0 : List Int) (l1 : List Int) : Option (List Int) := spec_l1Mul.l0 k l0 l1 (([] : List Int)) 0
set_option maxHeartbeats 8000000 in
set_option maxRecDepth 100000 in
theorem spec_l1Mul.calls (k : Nat) (A0 : Option Addr) (c0 : Nat) (l0 : List Int) (A1 : Option Addr) (c1 : Nat) (l1 : List Int) (r : List Int) (w : World) (hr0 : Kd.C (Kd.int .i64) w A0 l0.length l0) (hc0 : l0.length ≤ c0) (hr1 : Kd.C (Kd.int .i64) w A1 l1.length l1) (hc1 : l1.length ≤ c1) (h : spec_l1Mul.f k l0 l1 = some r) :
    Calls Tryz.prog 64 #[.slice A0 l0.length c0, .slice A1 l1.length c1] w fun e w' => ∃ v0_ : Value, e = .returned (v0_) ∧ Kd.R (Kd.int .i64) 3 w' w.heap.size (fun _ => True) v0_ r ∧ Below w.heap.size w w' := by
 have HR0 := A0_ hr0; have HC0 := A0_ hc0; clear hr0 hc0; have HR1 := A0_ hr1; have HC1 := A0_ hc1; clear hr1 hc1
 have HB := A0_ (Below.refl w.heap.size w)
 have H : (spec_l1Mul.l0 k l0 l1 (([] : List Int)) 0) = some r := h
 clear h
 obtain ⟨y378, hy378⟩ : ∃ y_ : List Int, y_ = (([] : List Int)) := ⟨_, rfl⟩
 replace H : (spec_l1Mul.l0 k l0 l1 y378 0) = some r := zH hy378 H
 have Ny378 := A0_ hy378; clear hy378; have H' := A0_ H; clear H
 go_enter Tryz.func64, Tryz.ntmps64
 go_wp2_with (first | ((with_reducible refine gD (N := 7) rfl ?_); refine Kd.R_lit (Kd.int .i64) _ 3 ?hg (N := 7) ?hd (xs := ([] : List Int)) (inner := []) (ok := fun _ => True) (okp := fun _ => True) ?hr ?hp (fun _ hk => hk) trivial (Below.refl _ _) (Nat.le_refl _) (by simp) ?_; (case hd => rfl); (case hg => rfl); (case hr => first | (go_simp; done) | (go_simp; rfl)); (case hp => exact (Reps.none _ _)); intro v379 w3 ho4 hb hg_ hnew_; clear hg_ hnew_; (first | rw [← Ny378.out] at ho4 | (simp only [Int.reduceToNat] at ho4; rw [← Ny378.out] at ho4)); have HO380 := A0_ (rL ho4 (bZ (zB_ HB))); replace HB := zB HB hb; clear hb ho4))
 go_loopg [5, 6] k (fun kq v5 v6 w' => ∃ (x5_1 : List Int) (x6_1 : Int), v6 = .int .i64 x6_1 ∧ Aside0 (spec_l1Mul.l0 kq l0 l1 x5_1 x6_1 = some r) ∧ Aside0 (kq ≤ k) ∧ Aside0 (Kd.R (Kd.int .i64) 3 w' w.heap.size (fun _ => True) v5 x5_1) ∧ Aside0 (Below w.heap.size w w'))
 case atStart => exact ⟨(y378), (0), zt, H', ⟨Nat.le_refl _⟩, ⟨zR_ HO380⟩, ⟨zB_ HB⟩⟩
 case round =>
  clear H'; (try clear c1); (try clear p2); obtain ⟨x5_1, x6_1, rfl, HA, HK1, HO_5, HB⟩ := hrel
  cases gk with
  | zero => exact absurd HA.out (by simp [spec_l1Mul.l0])
  | succ k1 =>
   have H := HA.out; clear HA; simp only [spec_l1Mul.l0] at H
   by_cases c5 : x6_1 < (l0.length : Int)
   ·rw [if_pos c5] at H
    have c5b0 := dT c5; clear c5
    by_cases c6 : 0 ≤ x6_1
    ·rw [if_pos c6] at H
     have c6b0 := dT c6; clear c6
     by_cases c7 : 0 ≤ (rd l0 x6_1)
     ·rw [if_pos c7] at H
      have c7b0 := dT c7; clear c7
      by_cases c8 : (rd l0 x6_1) < (l1.length : Int)
      ·rw [if_pos c8] at H
       have c8b0 := dT c8; clear c8
       by_cases c9 : x5_1.length < 17592186044416
       ·rw [if_pos c9] at H
        have LMc9 := A0_ c9; clear c9
        obtain ⟨y383, hy383⟩ : ∃ y_ : List Int, y_ = (x5_1 ++ [rd l1 (rd l0 x6_1)]) := ⟨_, rfl⟩
        replace H : (spec_l1Mul.l0 k1 l0 l1 y383 (wrap64 (x6_1 + 1))) = some r := zH hy383 H
        have Ny383 := A0_ hy383; clear hy383; have H' := A0_ H; clear H
        have p381 : 0 ≤ (x6_1 : Int) := zd
        have q381 : x6_1 < (l0.length : Int) := zd
        obtain ⟨ad381, e381, hx381_0⟩ := tI HR0.out x6_1 p381 q381
        cases e381
        try replace hx381_0 := (HB.out.cell (wL w _ hx381_0)).trans hx381_0
        replace p381 := eq_true p381; replace q381 := eq_true q381
        have p382 : 0 ≤ ((rd l0 x6_1) : Int) := zd
        have q382 : (rd l0 x6_1) < (l1.length : Int) := zd
        obtain ⟨ad382, e382, hx382_0⟩ := tI HR1.out (rd l0 x6_1) p382 q382
        cases e382
        try replace hx382_0 := (HB.out.cell (wL w _ hx382_0)).trans hx382_0
        replace p382 := eq_true p382; replace q382 := eq_true q382
        go_wp2_with (first | ((with_reducible refine gB (b := .append) (xs := #[.tmp 14, .tmp 22]) rfl ?_); at_builtin; refine Kd.R_append (Kd.int .i64) (w0 := w) w.heap.size rfl (.tmp 14) (.tmp 22) 23 3 (.int .i64 0) 8 rfl Tryz.underlying23 info3 rfl (by decide) (by omega) u5 x5_1 (rd l1 (rd l0 x6_1)) [.int .i64 (rd l1 (rd l0 x6_1))] (fun _ => True) (fun _ => False) rfl rfl ?aP (fun _ hk => hk.elim) ?aF ?aO ?aB ?aS ?aL ?_; (case aP => exact rfl); (case aB => exact (zB_ HB)); (case aF => exact (fun _ _ => trivial)); (case aO => exact (zR_ HO_5)); (case aS => exact (bZ (zB_ HB))); (case aL => have := LMc9.out; omega); intro v384 w10 ho hb hg hat; rw [← Ny383.out] at ho; replace HB := A0_ (hb); have HO385 := A0_ (ho); clear HO_5 ho hb hg hat))
        go_roundg k1
        case measure => have := HK1.out; omega
        case rel => exact ⟨(y383), (wrap64 (x6_1 + 1)), zt, H', ⟨by have := HK1.out; omega⟩, ⟨zR_ HO385⟩, ⟨zB_ HB⟩⟩
       rw [if_neg c9] at H
       exact absurd H (by simp)
      rw [if_neg c8] at H
      exact absurd H (by simp)
     rw [if_neg c7] at H
     exact absurd H (by simp)
    rw [if_neg c6] at H
    exact absurd H (by simp)
   rw [if_neg c5] at H; have c5b0 := dF c5; clear c5; obtain rfl := sI H
   go_wp2
   go_ret
   exact ⟨_, by first | rfl | (simp [*] <;> rfl), zR_ HO_5, zB_ HB⟩

/-! ### spec_l1Back: function 139 -/
def spec_l1Back.l0 : Nat → List Int → List Int → Int → Option (List Int)
  | 0, _, _, _ => none
  | k + 1, x0, x3, x4 => if x4 < (x0.length : Int) then (if 0 ≤ x4 then (if 0 ≤ (rd x0 x4) then (if (rd x0 x4) < (x3.length : Int) then (spec_l1Back.l0 k x0 (x3.set ((rd x0 x4) : Int).toNat x4) (wrap64 (x4 + 1))) else (none)) else (none)) else (none)) else (some x3)
def spec_l1Back.f (k : Nat) (l0 : List Int) : Option (List Int) := if 0 ≤ (l0.length : Int) then (if ((l0.length : Int) : Int).toNat ≤ 35184372088832 then (spec_l1Back.l0 k l0 (List.replicate ((l0.length : Int) : Int).toNat 0) 0) else (none)) else (none)
set_option maxHeartbeats 8000000 in
set_option maxRecDepth 100000 in
theorem spec_l1Back.calls (k : Nat) (A0 : Option Addr) (c0 : Nat) (l0 : List Int) (r : List Int) (w : World) (hr0 : Kd.C (Kd.int .i64) w A0 l0.length l0) (hc0 : l0.length ≤ c0) (h : spec_l1Back.f k l0 = some r) :
    Calls Tryz.prog 139 #[.slice A0 l0.length c0] w fun e w' => ∃ v0_ : Value, e = .returned (v0_) ∧ Kd.R (Kd.int .i64) 3 w' w.heap.size (fun _ => True) v0_ r ∧ Below w.heap.size w w' := by
 have HR0 := A0_ hr0; have HC0 := A0_ hc0; clear hr0 hc0
 have HB := A0_ (Below.refl w.heap.size w)
 have H : (if 0 ≤ (l0.length : Int) then (if ((l0.length : Int) : Int).toNat ≤ 35184372088832 then (spec_l1Back.l0 k l0 (List.replicate ((l0.length : Int) : Int).toNat 0) 0) else (none)) else (none)) = some r := h
 clear h
 by_cases c2 : 0 ≤ (l0.length : Int)
 ·rw [if_pos c2] at H
  have c2b0 := eq_true c2; have c2b1 := dT c2; clear c2
  by_cases c3 : ((l0.length : Int) : Int).toNat ≤ 35184372088832
  ·rw [if_pos c3] at H
   have c3b0 := eq_true c3; have c3b1 := dT c3; clear c3
   obtain ⟨y386, hy386⟩ : ∃ y_ : List Int, y_ = (List.replicate ((l0.length : Int) : Int).toNat 0) := ⟨_, rfl⟩
   replace H : (spec_l1Back.l0 k l0 y386 0) = some r := zH hy386 H
   have Ny386 := A0_ hy386; clear hy386; have H' := A0_ H; clear H
   go_enter Tryz.func139, Tryz.ntmps139
   go_wp2_with (first | ((with_reducible refine gD (N := 7) rfl ?_); refine Kd.R_make (Kd.int .i64) _ 3 rfl (N := 7) rfl 23 _ _ rfl (l0.length : Int) rfl rfl Tryz.underlying23 (.int .i64 0) 8 info3 rfl (by decide) (by omega) 0 (ok := fun _ => True) (okp := fun _ => True) rfl (fun _ hk => hk) trivial (zd) (Nat.le_trans (Nat.mul_le_mul_right _ (zd : (l0.length : Int).toNat ≤ 35184372088832)) (by omega)) (Below.refl _ _) (Nat.le_refl _) ?_; intro v387 w4 ho5 hb hg_ hnew_; clear hg_ hnew_; (first | rw [← Ny386.out] at ho5 | (simp only [Int.reduceToNat] at ho5; rw [← Ny386.out] at ho5)); have HO388 := A0_ (rL ho5 (bZ (zB_ HB))); replace HB := zB HB hb; clear hb ho5))
   go_loopg [4] k (fun kq v4 w' => ∃ (x3_1 : List Int) (x4_1 : Int), v4 = .int .i64 x4_1 ∧ Aside0 (spec_l1Back.l0 kq l0 x3_1 x4_1 = some r) ∧ Aside0 (kq ≤ k) ∧ Aside0 (Kd.R (Kd.int .i64) 3 w' w.heap.size (fun _ => True) v387 x3_1) ∧ Aside0 (Below w.heap.size w w'))
   case atStart => exact ⟨(y386), (0), zt, H', ⟨Nat.le_refl _⟩, ⟨zR_ HO388⟩, ⟨zB_ HB⟩⟩
   case round =>
    clear H'; (try clear c1); (try clear c2); (try clear c2b0); (try clear c2b1); (try clear p2); (try clear c3); (try clear c3b0); (try clear c3b1); obtain ⟨x3_1, x4_1, rfl, HA, HK1, HO_3, HB⟩ := hrel
    cases gk with
    | zero => exact absurd HA.out (by simp [spec_l1Back.l0])
    | succ k1 =>
     have H := HA.out; clear HA; simp only [spec_l1Back.l0] at H
     by_cases c6 : x4_1 < (l0.length : Int)
     ·rw [if_pos c6] at H
      have c6b0 := dT c6; clear c6
      by_cases c7 : 0 ≤ x4_1
      ·rw [if_pos c7] at H
       have c7b0 := dT c7; clear c7
       by_cases c8 : 0 ≤ (rd l0 x4_1)
       ·rw [if_pos c8] at H
        have c8b0 := dT c8; clear c8
        by_cases c9 : (rd l0 x4_1) < (x3_1.length : Int)
        ·rw [if_pos c9] at H
         have c9b0 := dT c9; clear c9
         obtain ⟨y390, hy390⟩ : ∃ y_ : List Int, y_ = (x3_1.set ((rd l0 x4_1) : Int).toNat x4_1) := ⟨_, rfl⟩
         replace H : (spec_l1Back.l0 k1 l0 y390 (wrap64 (x4_1 + 1))) = some r := zH hy390 H
         have Ny390 := A0_ hy390; clear hy390; have H' := A0_ H; clear H
         have p389 : 0 ≤ (x4_1 : Int) := zd
         have q389 : x4_1 < (l0.length : Int) := zd
         obtain ⟨ad389, e389, hx389_0⟩ := tI HR0.out x4_1 p389 q389
         cases e389
         try replace hx389_0 := (HB.out.cell (wL w _ hx389_0)).trans hx389_0
         replace p389 := eq_true p389; replace q389 := eq_true q389
         have p10 : 0 ≤ ((rd l0 x4_1) : Int) := zd
         have q10 : ((rd l0 x4_1) : Int) < ((x3_1.length : Int) : Int) := zd
         obtain ⟨go10, co10, eo10, gb10, gl10, cl10, HG10⟩ := Kd.R_form HO_3.out (by omega)
         (first | cases eo10 | (injection eo10 with ea_ en_ ec_; (first | subst ea_ | (injection ea_ with ea_; subst ea_)); subst ec_; clear en_))
         have GB10 := A0_ gb10; have GG10 := A0_ HG10; clear gb10 gl10 HG10
         obtain ⟨hx10_0, hf10_0⟩ := Kd.R_celln 0 HO_3.out ((rd l0 x4_1) : Int) p10 q10
         replace p10 := eq_true p10; replace q10 := eq_true q10
         have HP11 := Kd.R_putg HO_3.out ((rd l0 x4_1) : Int) x4_1
         go_wp2_with (first | ((with_reducible refine gS (t := 3) (p := 20) rfl ?_); refine store_event (t := 3) (p := 20) (v := ?vo_w12) (w1 := (wr.setCell ⟨go10, ((rd l0 x4_1) : Int).toNat, none⟩ (.int .i64 x4_1))) ?hg ?ho ?hn ?hr ?_; (case ho => rfl); (case hg => rfl); (case hn => rfl); (case hr => first | (go_simp; done) | (go_simp; rfl)); intro w12 hw; have hg : wr.grownBy w12 (some go10) := (by rw [hw]; exact HP11.2); have hp_ : Kd.R (Kd.int .i64) 3 w12 w.heap.size (fun _ => True) (.slice (some ⟨go10, 0, none⟩) x3_1.length co10) y390 := (by rw [hw, Ny390.out]; exact HP11.1); clear HP11; replace HO_3 := A0_ (hp_); replace HB := A0_ ((by rw [hw]; exact bS (HB.out) GB10.out : Below w.heap.size w w12)); clear hg hw hp_))
         go_roundg k1
         case measure => have := HK1.out; omega
         case rel => exact ⟨(y390), (wrap64 (x4_1 + 1)), zt, H', ⟨by have := HK1.out; omega⟩, ⟨zR_ HO_3⟩, ⟨zB_ HB⟩⟩
        rw [if_neg c9] at H
        exact absurd H (by simp)
       rw [if_neg c8] at H
       exact absurd H (by simp)
      rw [if_neg c7] at H
      exact absurd H (by simp)
     rw [if_neg c6] at H; have c6b0 := dF c6; clear c6; obtain rfl := sI H
     go_wp2
     go_ret
     exact ⟨_, by first | rfl | (simp [*] <;> rfl), zR_ HO_3, zB_ HB⟩
  rw [if_neg c3] at H
  exact absurd H (by simp)
 rw [if_neg c2] at H
 exact absurd H (by simp)

/-! ### spec_PermConj: function 121 -/
def spec_PermConj.f (k : Nat) (l0 : List Int) (l1 : List Int) : Option (List Int × Bool) := (spec_l1Both.f k l0 l1).bind fun t391 => (if t391 = true then ((spec_l1Back.f k l1).bind fun t392 => ((spec_l1Mul.f k t392 l0).bind fun t395 => ((spec_l1Mul.f k t395 l1).bind fun t398 => (some (t398, true))))) else (some ((([] : List Int)), false)))
set_option maxHeartbeats 8000000 in
set_option maxRecDepth 100000 in
theorem spec_PermConj.calls (k : Nat) (A0 : Option Addr) (c0 : Nat) (l0 : List Int) (A1 : Option Addr) (c1 : Nat) (l1 : List Int) (r1 : List Int) (r2 : Bool) (w : World) (hr0 : Kd.C (Kd.int .i64) w A0 l0.length l0) (hc0 : l0.length ≤ c0) (hr1 : Kd.C (Kd.int .i64) w A1 l1.length l1) (hc1 : l1.length ≤ c1) (h : spec_PermConj.f k l0 l1 = some (r1, r2)) :
    Calls Tryz.prog 121 #[.slice A0 l0.length c0, .slice A1 l1.length c1] w fun e w' => ∃ v0_ : Value, e = .returned (.tuple #[v0_, .bool r2]) ∧ Kd.R (Kd.int .i64) 3 w' w.heap.size (fun _ => True) v0_ r1 ∧ Below w.heap.size w w' := by
 have HR0 := A0_ hr0; have HC0 := A0_ hc0; clear hr0 hc0; have HR1 := A0_ hr1; have HC1 := A0_ hc1; clear hr1 hc1
 have HB := A0_ (Below.refl w.heap.size w)
 have H : ((spec_l1Both.f k l0 l1).bind fun t391 => (if t391 = true then ((spec_l1Back.f k l1).bind fun t392 => ((spec_l1Mul.f k t392 l0).bind fun t395 => ((spec_l1Mul.f k t395 l1).bind fun t398 => (some (t398, true))))) else (some ((([] : List Int)), false)))) = some (r1, r2) := h
 clear h; obtain ⟨t391, A3, H⟩ := zbind H
 by_cases c4 : t391 = true
 ·subst c4
  have H1 : ((spec_l1Back.f k l1).bind fun t392 => ((spec_l1Mul.f k t392 l0).bind fun t395 => ((spec_l1Mul.f k t395 l1).bind fun t398 => (some (t398, true))))) = some (r1, r2) := by rw [if_pos rfl] at H; exact H
  clear H; have H := H1; clear H1; obtain ⟨t392, A5, H⟩ := zbind H; obtain ⟨t395, A6, H⟩ := zbind H; obtain ⟨t398, A7, H⟩ := zbind H; simp only [Option.some.injEq, Prod.mk.injEq] at H; obtain ⟨rfl, rfl⟩ := H
  go_enter Tryz.func121, Tryz.ntmps121
  go_wp2_with (first | ((with_reducible refine gC (f := 63) rfl ?_); refine zJ (some 8) Tryz.func63 #[.slice A0 l0.length c0, .slice A1 l1.length c1] ?_; (with_reducible refine (spec_l1Both.calls k _ _ l0 _ _ l1 true _ ?side1 ?side2 ?side3 ?side4 A3.out).mono ?_); (case side1 => repeat (first | exact HR0.out | (with_reducible refine cA ?_ _) | (with_reducible refine cN ?_ _) | (with_reducible refine cD ?_))); (case side2 => exact HC0.out); (case side3 => repeat (first | exact HR1.out | (with_reducible refine cA ?_ _) | (with_reducible refine cN ?_ _) | (with_reducible refine cD ?_))); (case side4 => exact HC1.out); rintro e w' ⟨rfl, ⟨nd, rfl⟩⟩; refine ⟨_, rfl, ?_⟩) | ((with_reducible refine gC (f := 139) rfl ?_); refine zJ (some 12) Tryz.func139 #[.slice A1 l1.length c1] ?_; (with_reducible refine (spec_l1Back.calls k _ _ l1 t392 _ ?side1 ?side2 A5.out).mono ?_); (case side1 => repeat (first | exact HR1.out | (with_reducible refine cA ?_ _) | (with_reducible refine cN ?_ _) | (with_reducible refine cD ?_))); (case side2 => exact HC1.out); rintro e w8 ⟨v393, rfl, ho0, hb⟩; refine ⟨_, rfl, ?_⟩; have HO394 := A0_ (rL ho0 (bZ (zB_ HB))); replace HB := zB HB hb; (try clear hb); (try clear ho0); obtain ⟨Ao9, co9, eo9⟩ := rS HO394.out; subst eo9) | ((with_reducible refine gC (f := 64) rfl ?_); refine zJ (some 14) Tryz.func64 #[.slice Ao9 t392.length co9, .slice A0 l0.length c0] ?_; (with_reducible refine (spec_l1Mul.calls k _ _ t392 _ _ l0 t395 _ ?side1 ?side2 ?side3 ?side4 A6.out).mono ?_); (case side1 => exact zD HO394); (case side2 => exact (rR HO394.out).2.1); (case side3 => exact zC HR0 HB); (case side4 => exact HC0.out); rintro e w10 ⟨v396, rfl, ho0, hb⟩; refine ⟨_, rfl, ?_⟩; have HO397 := A0_ (rL (Kd.R_new' ho0 (rX (zR_ HO394))) (bZ (zB_ HB))); replace HO394 := A0_ (Kd.R_elder' (zR_ HO394) (Kd.R_base ho0) hb); replace HB := zB HB hb; (try clear hb); (try clear ho0); obtain ⟨Ao11, co11, eo11⟩ := rS HO397.out; subst eo11) | ((with_reducible refine gC (f := 64) rfl ?_); refine zJ (some 16) Tryz.func64 #[.slice Ao11 t395.length co11, .slice A1 l1.length c1] ?_; (with_reducible refine (spec_l1Mul.calls k _ _ t395 _ _ l1 t398 _ ?side1 ?side2 ?side3 ?side4 A7.out).mono ?_); (case side1 => exact zD HO397); (case side2 => exact (rR HO397.out).2.1); (case side3 => exact zC HR1 HB); (case side4 => exact HC1.out); rintro e w12 ⟨v399, rfl, ho0, hb⟩; refine ⟨_, rfl, ?_⟩; have HO400 := A0_ (rL (Kd.R_new' (Kd.R_new' ho0 (rX (zR_ HO394))) (rX (zR_ HO397))) (bZ (zB_ HB))); replace HO394 := A0_ (Kd.R_elder' (zR_ HO394) (Kd.R_base ho0) hb); replace HO397 := A0_ (Kd.R_elder' (zR_ HO397) (Kd.R_base ho0) hb); replace HB := zB HB hb; (try clear hb); (try clear ho0)))
  go_ret2
  exact ⟨_, by first | rfl | (simp [*] <;> rfl), zmR HO400 (fun _ hk => trivial), zB_ HB⟩
 replace c4 := Bool.eq_false_iff.mpr c4; subst c4
 have H1 : (some ((([] : List Int)), false)) = some (r1, r2) := by rw [if_neg (show ¬ (false = true) by decide)] at H; exact H
 clear H; have H := H1; clear H1
 obtain ⟨y401, hy401⟩ : ∃ y_ : List Int, y_ = (([] : List Int)) := ⟨_, rfl⟩
 replace H : (some (y401, false)) = some (r1, r2) := zH hy401 H
 have Ny401 := A0_ hy401; clear hy401; simp only [Option.some.injEq, Prod.mk.injEq] at H; obtain ⟨rfl, rfl⟩ := H
 go_enter Tryz.func121, Tryz.ntmps121
 go_wp2_with (first | ((with_reducible refine gC (f := 63) rfl ?_); refine zJ (some 8) Tryz.func63 #[.slice A0 l0.length c0, .slice A1 l1.length c1] ?_; (with_reducible refine (spec_l1Both.calls k _ _ l0 _ _ l1 false _ ?side1 ?side2 ?side3 ?side4 A3.out).mono ?_); (case side1 => repeat (first | exact HR0.out | (with_reducible refine cA ?_ _) | (with_reducible refine cN ?_ _) | (with_reducible refine cD ?_))); (case side2 => exact HC0.out); (case side3 => repeat (first | exact HR1.out | (with_reducible refine cA ?_ _) | (with_reducible refine cN ?_ _) | (with_reducible refine cD ?_))); (case side4 => exact HC1.out); rintro e w' ⟨rfl, ⟨nd, rfl⟩⟩; refine ⟨_, rfl, ?_⟩) | ((with_reducible refine gD (N := 10) rfl ?_); refine Kd.R_lit (Kd.int .i64) _ 3 ?hg (N := 10) ?hd (xs := ([] : List Int)) (inner := []) (ok := fun _ => True) (okp := fun _ => True) ?hr ?hp (fun _ hk => hk) trivial (Below.refl _ _) (Nat.le_refl _) (by simp) ?_; (case hd => rfl); (case hg => rfl); (case hr => first | (go_simp; done) | (go_simp; rfl)); (case hp => exact (Reps.none _ _)); intro v402 w13 ho14 hb hg_ hnew_; clear hg_ hnew_; (first | rw [← Ny401.out] at ho14 | (simp only [Int.reduceToNat] at ho14; rw [← Ny401.out] at ho14)); have HO403 := A0_ (rL ho14 (bZ (zB_ HB))); replace HB := zB HB hb; clear hb ho14))
 go_ret2
 exact ⟨_, by first | rfl | (simp [*] <;> rfl), zR_ HO403, zB_ HB⟩

/-! ### spec_l2Rename: function 95 -/
def spec_l2Rename.f (k : Nat) (l0_0 : List Int) (l0_1 : List Int) (l1 : List Int) : Option (List Int × List Int) := (spec_PermConj.f k l0_0 l1).bind fun bt406 => ((spec_PermConj.f k l0_1 l1).bind fun bt410 => (some (bt406.1, bt410.1)))
set_option maxHeartbeats 8000000 in
set_option maxRecDepth 100000 in
theorem spec_l2Rename.calls (k : Nat) (A0_0 : Option Addr) (c0_0 : Nat) (l0_0 : List Int) (A0_1 : Option Addr) (c0_1 : Nat) (l0_1 : List Int) (A1 : Option Addr) (c1 : Nat) (l1 : List Int) (r1 : List Int) (r2 : List Int) (w : World) (hr0_0 : Kd.C (Kd.int .i64) w A0_0 l0_0.length l0_0) (hc0_0 : l0_0.length ≤ c0_0) (hr0_1 : Kd.C (Kd.int .i64) w A0_1 l0_1.length l0_1) (hc0_1 : l0_1.length ≤ c0_1) (hr1 : Kd.C (Kd.int .i64) w A1 l1.length l1) (hc1 : l1.length ≤ c1) (h : spec_l2Rename.f k l0_0 l0_1 l1 = some (r1, r2)) :
    Calls Tryz.prog 95 #[.agg #[.slice A0_0 l0_0.length c0_0, .slice A0_1 l0_1.length c0_1], .slice A1 l1.length c1] w fun e w' => ∃ v0_ v1_ : Value, e = .returned (.agg #[v0_, v1_]) ∧ Kd.R (Kd.int .i64) 3 w' w.heap.size (fun k_ => some k_ ≠ (v1_ : Value).ownBlock) v0_ r1 ∧ Kd.R (Kd.int .i64) 3 w' w.heap.size (fun k_ => some k_ ≠ (v0_ : Value).ownBlock) v1_ r2 ∧ Below w.heap.size w w' := by
 have hu25 := Tryz.underlying25; have HR0_0 := A0_ hr0_0; have HC0_0 := A0_ hc0_0; clear hr0_0 hc0_0; have HR0_1 := A0_ hr0_1; have HC0_1 := A0_ hc0_1; clear hr0_1 hc0_1; have HR1 := A0_ hr1; have HC1 := A0_ hc1; clear hr1 hc1
 have HB := A0_ (Below.refl w.heap.size w)
 have H : ((spec_PermConj.f k l0_0 l1).bind fun bt406 => ((spec_PermConj.f k l0_1 l1).bind fun bt410 => (some (bt406.1, bt410.1)))) = some (r1, r2) := h
 clear h; obtain ⟨⟨t406, t407⟩, A3, H⟩ := zbind H; dsimp only at H; obtain ⟨⟨t410, t411⟩, A4, H⟩ := zbind H
 replace H : (some (t406, t410)) = some (r1, r2) := H
 simp only [Option.some.injEq, Prod.mk.injEq] at H; obtain ⟨rfl, rfl⟩ := H
 go_enter Tryz.func95, Tryz.ntmps95
 go_wp2_with (first | ((with_reducible refine gD (N := 2) rfl ?_); refine zX (N := 2) (cs := #[.slice A0_0 l0_0.length c0_0, .slice A0_1 l0_1.length c0_1]) (t := 25) ?_; intro gb404 hg w5 hbox hb; have BK404 := A0_ (hbox); have GW404 := zG hg HB; have GE404 := zG hg HB; replace HB := zB HB hb; clear hb hbox hg) | ((with_reducible refine gD (N := 4) rfl ?_); refine zX (N := 4) (cs := #[.slice none 0 0, .slice none 0 0]) (t := 25) ?_; intro gb405 hg w6 hbox hb; have BK405 := A0_ (hbox); have GW405 := zG hg HB; have GE405 := zG hg HB; replace HB := zB HB hb; have NB404_405 := zL hg BK404; have NB405_404 := zM hg BK404; replace BK404 := zK BK404 hb; clear hb hbox hg; have hnb7 := NB404_405.out; have hnc7 := NB405_404.out; have hcz8_0 := zc0 BK404; have hcz8_1 := zc1 BK404; have hfz8_0 := kF BK404.out 0; have hfz8_1 := kF BK404.out 1) | ((with_reducible refine gC (f := 121) rfl ?_); refine zJ (some 13) Tryz.func121 #[.slice A0_0 l0_0.length c0_0, .slice A1 l1.length c1] ?_; (with_reducible refine (spec_PermConj.calls k _ _ l0_0 _ _ l1 t406 t407 _ ?side1 ?side2 ?side3 ?side4 A3.out).mono ?_); (case side1 => exact zC HR0_0 HB); (case side2 => exact HC0_0.out); (case side3 => exact zC HR1 HB); (case side4 => exact HC1.out); rintro e w9 ⟨v408, rfl, ho0, hb⟩; refine ⟨_, rfl, ?_⟩; have HO409 := A0_ (rL ho0 (bZ (zB_ HB))); replace BK404 := zK BK404 hb; replace BK405 := zK BK405 hb; replace HB := zB HB hb; (try clear hb); (try clear ho0); have hcz10_0 := zc0 BK404; have hcz10_1 := zc1 BK404; have hfz10_0 := kF BK404.out 0; have hfz10_1 := kF BK404.out 1) | ((with_reducible refine gC (f := 121) rfl ?_); refine zJ (some 20) Tryz.func121 #[.slice A0_1 l0_1.length c0_1, .slice A1 l1.length c1] ?_; (with_reducible refine (spec_PermConj.calls k _ _ l0_1 _ _ l1 t410 t411 _ ?side1 ?side2 ?side3 ?side4 A4.out).mono ?_); (case side1 => exact zC HR0_1 HB); (case side2 => exact HC0_1.out); (case side3 => exact zC HR1 HB); (case side4 => exact HC1.out); rintro e w11 ⟨v412, rfl, ho0, hb⟩; refine ⟨_, rfl, ?_⟩; have HO413 := A0_ (rL (Kd.R_new' ho0 (rX (zR_ HO409))) (bZ (zB_ HB))); replace HO409 := A0_ (Kd.R_elder' (zR_ HO409) (Kd.R_base ho0) hb); replace BK404 := zK BK404 hb; replace BK405 := zK BK405 hb; replace HB := zB HB hb; (try clear hb); (try clear ho0); obtain ⟨Ao12, co12, eo12⟩ := rS HO413.out; subst eo12; obtain ⟨Ao13, co13, eo13⟩ := rS HO409.out; subst eo13; have hcz14_0 := zc0 BK405; have hcz14_1 := zc1 BK405; have hfz14_0 := kF BK405.out 0; have hfz14_1 := kF BK405.out 1))
 refine bodyPost_ret (results_cell_row rfl _ _ gb405 25 #[.slice Ao13 t406.length co13, .slice Ao12 t410.length co12] (0, 0) _ rfl (by (with_reducible repeat (first | refine kN ?_ _ | refine kD ?_ | refine kA ?_ _)); refine blk_put (cs := #[.slice Ao13 t406.length co13, .slice none 0 0]) ?_ 1 _ rfl; (with_reducible repeat (first | refine kN ?_ _ | refine kD ?_ | refine kA ?_ _)); refine blk_put (cs := #[.slice none 0 0, .slice none 0 0]) ?_ 0 _ rfl; (with_reducible repeat (first | refine kN ?_ _ | refine kD ?_ | refine kA ?_ _)); exact BK405.out) Tryz.underlying25 rfl (by kernel_rfl)) rfl ?_
 exact ⟨_, _, by first | rfl | (simp [*] <;> rfl), by (with_reducible repeat (first | apply rA | apply rN | apply rD)); exact rM (rF (p := ⟨gb405, 1, none⟩) (rF (p := ⟨gb405, 0, none⟩) (rY HO409.out BK405.out (by decide)) (fun _ hk => hk.2) (.slice Ao13 t406.length co13)) (fun _ hk => hk.2) (.slice Ao12 t410.length co12)) (fun _ hk => hk.1.2), by (with_reducible repeat (first | apply rA | apply rN | apply rD)); exact rM (rF (p := ⟨gb405, 1, none⟩) (rF (p := ⟨gb405, 0, none⟩) (rY HO413.out BK405.out (by decide)) (fun _ hk => hk.2) (.slice Ao13 t406.length co13)) (fun _ hk => hk.2) (.slice Ao12 t410.length co12)) (fun _ hk => hk.1.2), zB_ HB⟩

end Go.Proofs.YtikkokflcgcnbaaGreatDoor.PFnExecuteForm
