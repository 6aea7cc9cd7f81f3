-- Made by a program of this session (wip/tools) out of the loaded program; not trusted: Lean checks it.
import Derived.Test.YtmegggomhjgehaaPFnWindingx0
import Derived.Test.YtmegggomhjgehaaPFnWindingx1
import Derived.Test.YtmegggomhjgehaaPFnWindingx3
import Derived.Test.YtmegggomhjgehaaPFnWindingx5
import Derived.Test.YtmegggomhjgehaaPFnWindingx8
-- packed
namespace Go.Proofs.Ytmegggomhjgehaa.PFnWinding
open Go.RowKit Go.Proofs.YtmegggomhjgehaaW.PrintWords Go.Proofs.YtmegggomhjgehaaW.PrintLast Go.Proofs.YtmegggomhjgehaaW.PrintMore
attribute [local go_sem] max2_int min2_int max_two min_two max_three min_three max_four min_four   -- for this text's walks alone
set_option linter.unusedVariables false
set_option linter.unusedSimpArgs false

/-! ### spec_l6Open: function 52 -/
def spec_l6Open.f (l0 : List Int) : Option (List Int × Int) := if (l0.length : Int) > 2000 then (if 2000 ≤ (l0.length : Int) then (some (l0.take 2000, 0)) else (none)) else (some (l0, 0))
set_option maxHeartbeats 8000000 in
set_option maxRecDepth 100000 in
theorem spec_l6Open.calls (A0 : Option Addr) (c0 : Nat) (l0 : List Int) (r1 : List Int) (r2 : Int) (w0 w : World) (hB : Below w0.heap.size w0 w) (hr0 : Kd.C (Kd.int .u8) w0 A0 l0.length l0) (hc0 : l0.length ≤ c0) (h : spec_l6Open.f l0 = some (r1, r2)) :
    Calls Try.prog 52 #[.slice A0 l0.length c0] w fun e w' => ∃ g_ : Nat, e = .returned (.pointer (some ⟨g_, 0, none⟩)) ∧ IsS82 w0 w' g_ r1 r2 ∧ Below w0.heap.size w0 w' ∧ Below w.heap.size w w' := by
 have hu82 := Try.underlying82; have HR0 := A0_ hr0; have HC0 := A0_ hc0; clear hr0 hc0
 have HBW := A0_ (Below.refl w.heap.size w)
 have HW0 := A0_ hB.size; have HB := A0_ hB; clear hB
 have H : (if (l0.length : Int) > 2000 then (if 2000 ≤ (l0.length : Int) then (some (l0.take 2000, 0)) else (none)) else (some (l0, 0))) = some (r1, r2) := h
 clear h
 by_cases c2 : (l0.length : Int) > 2000
 ·rw [if_pos c2] at H
  have c2b0 : decide (2000 < (l0.length : Int)) = true := dT c2
  have c2b1 : decide (2000 < l0.length) = true := dT (by omega)
  clear c2
  by_cases c3 : 2000 ≤ (l0.length : Int)
  ·rw [if_pos c3] at H
   have c3b0 := eq_true c3; have c3b1 := dT c3; clear c3; simp only [Option.some.injEq, Prod.mk.injEq] at H; obtain ⟨rfl, rfl⟩ := H; obtain ⟨i04, hi04, _, hsz4, _⟩ := info_parts info5
   obtain ⟨hcut4, hA4, hC4⟩ := print_take_of (P := Try.prog) (Value.int .u8) 0 22 5 .i64 Try.underlying22 hi04 hsz4 A0 c0 l0 2000 (by omega) (zd) HC0.out
   have HR333 := A0_ (Kd.C_of_reads (h1 := fun _ => rfl) (hA4 _ (Kd.reads_of_C HR0.out)))
   have HC333 := A0_ hC4; clear hA4 hC4 hi04 hsz4
   go_enter Try.func52, Try.ntmps52
   go_wp2_with (first | ((with_reducible refine gD (N := 10) rfl ?_); refine zX (N := 10) (cs := #[.slice A0 (l0.take 2000).length c0, .int .i64 0]) (t := 82) ?_; intro gb334 hg w5 hbox hb; replace HB := zB HB hb; have BK334 := A0_ (hbox); have GW334 := A0_ ((by rw [hg]; exact (bZ (by repeat (first | (with_reducible first | exact HBW.out | apply bA | apply bN | apply bD) | exact HBW.out))) : w.heap.size ≤ gb334)); have GE334 := A0_ ((Nat.le_trans HW0.out (by rw [hg]; exact (bZ (by repeat (first | (with_reducible first | exact HBW.out | apply bA | apply bN | apply bD) | exact HBW.out))) : w.heap.size ≤ gb334) : w0.heap.size ≤ gb334)); replace HBW := A0_ (bT HBW.out hb); clear hb hbox hg))
   go_ret
   exact ⟨_, rfl, (show IsS82 w0 _ gb334 (l0.take 2000) 0 from ⟨_, _, zK_ BK334, GE334.out, HR333.out⟩), zB_ HB, by repeat (first | (with_reducible first | exact HBW.out | apply bA | apply bN | apply bD | refine bS ?_ GW334.out) | exact HBW.out)⟩
  rw [if_neg c3] at H
  exact absurd H (by simp)
 rw [if_neg c2] at H
 have c2b0 : decide (2000 < (l0.length : Int)) = false := dF c2
 have c2b1 : decide (2000 < l0.length) = false := dF (by omega)
 clear c2; simp only [Option.some.injEq, Prod.mk.injEq] at H; obtain ⟨rfl, rfl⟩ := H
 go_enter Try.func52, Try.ntmps52
 go_wp2_with (first | ((with_reducible refine gD (N := 10) rfl ?_); refine zX (N := 10) (cs := #[.slice A0 l0.length c0, .int .i64 0]) (t := 82) ?_; intro gb335 hg w6 hbox hb; replace HB := zB HB hb; have BK335 := A0_ (hbox); have GW335 := A0_ ((by rw [hg]; exact (bZ (by repeat (first | (with_reducible first | exact HBW.out | apply bA | apply bN | apply bD) | exact HBW.out))) : w.heap.size ≤ gb335)); have GE335 := A0_ ((Nat.le_trans HW0.out (by rw [hg]; exact (bZ (by repeat (first | (with_reducible first | exact HBW.out | apply bA | apply bN | apply bD) | exact HBW.out))) : w.heap.size ≤ gb335) : w0.heap.size ≤ gb335)); replace HBW := A0_ (bT HBW.out hb); clear hb hbox hg))
 go_ret
 exact ⟨_, rfl, (show IsS82 w0 _ gb335 l0 0 from ⟨_, _, zK_ BK335, GE335.out, HR0.out⟩), zB_ HB, by repeat (first | (with_reducible first | exact HBW.out | apply bA | apply bN | apply bD | refine bS ?_ GW335.out) | exact HBW.out)⟩

/-! ### spec_l91At: function 85 -/
def spec_l91At.j0 : Nat → Int → Bool → List Int → Int → Option (Int × Int)
  | 0, _, _, _, _ => none
  | k + 1, x1, x11, x1000, x1001 => if x11 = true then ((some (([(-1), x1] : List Int) : List Int)).bind fun y338 => ((spec_l6Rd_pick.f k x1000 x1001 2).bind fun bt341 => (if 0 ≤ bt341.1 then (if bt341.1 < (y338.length : Int) then (some (rd y338 bt341.1, bt341.2)) else (none)) else (none)))) else ((spec_l6Rd_pick.f k x1000 x1001 x1).bind fun bt344 => (some (bt344.1, bt344.2)))
def spec_l91At.f (k : Nat) (s0_0 : List Int) (s0_1 : Int) (a1 : Int) : Option (Int × Int) := if a1 = 0 then (spec_l91At.j0 k a1 true s0_0 s0_1) else ((spec_l6Rd_pick.f k s0_0 s0_1 20).bind fun bt336 => (spec_l91At.j0 k a1 (bt336.1 == 0) s0_0 bt336.2))
set_option maxHeartbeats 8000000 in
set_option maxRecDepth 100000 in
theorem spec_l91At.calls (k : Nat) (g : Nat) (s0_0 : List Int) (s0_1 : Int) (a1 : Int) (r1 : Int) (r2 : Int) (w0 w : World) (hI : IsS82 w0 w g s0_0 s0_1) (hB : Below w0.heap.size w0 w) (h : spec_l91At.f k s0_0 s0_1 a1 = some (r1, r2)) :
    Calls Try.prog 85 #[.pointer (some ⟨g, 0, none⟩), .int .i64 a1] w fun e w' => e = .returned (.int .i64 r1) ∧ IsS82 w0 w' g s0_0 r2 ∧ Below w0.heap.size w0 w' ∧ KeepBut w w' g none := by
 have HI0 := A0_ hI
 have HK := A0_ (KeepBut.refl w g none)
 have HL := A0_ hB.size; clear hI; have HW0 := A0_ hB.size; have HB := A0_ hB; clear hB
 have H : (if a1 = 0 then (spec_l91At.j0 k a1 true s0_0 s0_1) else ((spec_l6Rd_pick.f k s0_0 s0_1 20).bind fun bt336 => (spec_l91At.j0 k a1 (bt336.1 == 0) s0_0 bt336.2))) = some (r1, r2) := h
 clear h; have HC3 := A0_ H; clear H
 go_enter Try.func85, Try.ntmps85
 go_upto_region 1 with (fail)
 go_cut [11] (fun v11 wc => ∃ (kq : Nat) (x11_2 : Bool) (x1001_2 : Int), v11 = .bool x11_2 ∧ Aside0 (spec_l91At.j0 kq a1 x11_2 s0_0 x1001_2 = some (r1, r2)) ∧ Aside0 (kq ≤ k) ∧ Aside0 (IsS82 w0 wc g s0_0 x1001_2) ∧ Aside0 (KeepBut w wc g none) ∧ Aside0 (Below w0.heap.size w0 wc))
 case first =>
  have H := HC3.out; clear HC3
  by_cases c4 : a1 = 0
  ·rw [if_pos c4] at H
   have c4b0 : (a1 == 0) = true := beq_iff_eq.mpr c4
   have c4b1 : (a1 != 0) = false := bne_eq_false_iff_eq.mpr c4
   clear c4
   (first | rw [c4b0] | (simp only [i64_w, i32_w]; rw [c4b0]) | skip)
   have H' := A0_ H; clear H
   go_wp2
   go_meet
   case rel => exact ⟨_, (true), (s0_1), zt, H', zo, ⟨by repeat (first | (with_reducible first | exact HI0.out | apply IsS82.alloc | apply IsS82.drewN | apply IsS82.drew | apply IsS82.set_1) | exact HI0.out)⟩, ⟨by repeat (first | (with_reducible first | exact HK.out | apply KeepBut.set_ | apply keep_drewN | apply keep_drew | apply keep_alloc) | exact HK.out)⟩, ⟨by repeat (first | (with_reducible first | exact HB.out | apply bA | apply bN | apply bD | refine bS ?_ (IsS82.ge HI0.out)) | exact HB.out)⟩⟩
  rw [if_neg c4] at H
  have c4b0 : (a1 == 0) = false := beq_eq_false_iff_ne.mpr c4
  have c4b1 : (a1 != 0) = true := bne_iff_ne.mpr c4
  (first | rw [c4b0] | (simp only [i64_w, i32_w]; rw [c4b0]) | skip)
  obtain ⟨⟨t336, t337⟩, A5, H⟩ := zbind H; dsimp only at H; have H' := A0_ H; clear H
  go_wp2_with (first | (go_at_call 74; (with_reducible refine (spec_l6Rd_pick.calls k g s0_0 s0_1 20 t336 t337 w0 _ ?side1 ?side2 A5.out).mono ?_); (case side1 => repeat (first | (with_reducible first | exact HI0.out | apply IsS82.alloc | apply IsS82.drewN | apply IsS82.drew | apply IsS82.set_1) | exact HI0.out)); (case side2 => repeat (first | (with_reducible first | exact HB.out | apply bA | apply bN | apply bD | refine bS ?_ (IsS82.ge HI0.out)) | exact HB.out)); rintro e w6 ⟨rfl, hi, hb, hk⟩; replace HK := A0_ (KeepBut.trans (by repeat (first | (with_reducible first | exact HK.out | apply KeepBut.set_ | apply keep_drewN | apply keep_drew | apply keep_alloc) | exact HK.out)) hk (.inl rfl)); replace HB := A0_ (hb); replace HI0 := A0_ (hi); (try clear hb)))
  go_meet
  case rel => exact ⟨_, ((t336 == 0)), (t337), zt, H', zo, ⟨by repeat (first | (with_reducible first | exact HI0.out | apply IsS82.alloc | apply IsS82.drewN | apply IsS82.drew | apply IsS82.set_1) | exact HI0.out)⟩, ⟨by repeat (first | (with_reducible first | exact HK.out | apply KeepBut.set_ | apply keep_drewN | apply keep_drew | apply keep_alloc) | exact HK.out)⟩, ⟨by repeat (first | (with_reducible first | exact HB.out | apply bA | apply bN | apply bD | refine bS ?_ (IsS82.ge HI0.out)) | exact HB.out)⟩⟩
 case rest =>
  clear HC3; (try clear p2); (try clear c4); (try clear c4b0); (try clear c4b1); obtain ⟨kq, x11_2, x1001_2, rfl, HA, HJ2, HI0, HK, HB⟩ := hcut
  cases kq with
  | zero => exact absurd HA.out (by simp [spec_l91At.j0])
  | succ kj2 =>
   have H := HA.out; clear HA; simp only [spec_l91At.j0] at H
   by_cases c7 : x11_2 = true
   ·subst c7
    have H1 : ((some (([(-1), a1] : List Int) : List Int)).bind fun y338 => ((spec_l6Rd_pick.f kj2 s0_0 x1001_2 2).bind fun bt341 => (if 0 ≤ bt341.1 then (if bt341.1 < (y338.length : Int) then (some (rd y338 bt341.1, bt341.2)) else (none)) else (none)))) = some (r1, r2) := by rw [if_pos rfl] at H; exact H
    clear H; have H := H1; clear H1
    obtain ⟨y338, hy338⟩ : ∃ y_ : List Int, y_ = (([(-1), a1] : List Int)) := ⟨_, rfl⟩
    replace H : ((spec_l6Rd_pick.f kj2 s0_0 x1001_2 2).bind fun bt341 => (if 0 ≤ bt341.1 then (if bt341.1 < (y338.length : Int) then (some (rd y338 bt341.1, bt341.2)) else (none)) else (none))) = some (r1, r2) := zH hy338 H
    have Ny338 := A0_ hy338; clear hy338; obtain ⟨⟨t341, t342⟩, A8, H⟩ := zbind H; dsimp only at H
    by_cases c9 : 0 ≤ t341
    ·rw [if_pos c9] at H
     have c9b0 := dT c9; clear c9
     by_cases c10 : t341 < (y338.length : Int)
     ·rw [if_pos c10] at H
      have c10b0 := dT c10; clear c10; simp only [Option.some.injEq, Prod.mk.injEq] at H; obtain ⟨rfl, rfl⟩ := H
      go_wp2_with (first | ((with_reducible refine gD (N := 13) rfl ?_); refine Kd.R_lit (Kd.int .i64) _ 3 ?hg (N := 13) ?hd (xs := ([(-1), a1] : List Int)) (inner := [.int .i64 (-1), .int .i64 a1]) (ok := fun _ => True) (okp := fun _ => True) ?hr ?hp (fun _ hk => hk) trivial (Below.refl _ _) (Nat.le_refl _) (by simp) ?_; (case hd => rfl); (case hg => rfl); (case hr => first | (go_simp; done) | (go_simp; rfl)); (case hp => exact (Reps.one (show Kd.M (Kd.int .i64) _ _ _ (-1) [.int .i64 (-1)] from rfl) (Reps.one (show Kd.M (Kd.int .i64) _ _ _ a1 [.int .i64 a1] from rfl) (Reps.none _ _)))); intro v339 w11 ho12 hb hg_ hnew_; clear hg_ hnew_; (first | rw [← Ny338.out] at ho12 | (simp only [Int.reduceToNat] at ho12; rw [← Ny338.out] at ho12)); have HO340 := A0_ (rL ho12 (keep_size (w := w) (g := g) (row := none) (by repeat (first | (with_reducible first | exact HK.out | apply KeepBut.set_ | apply keep_drewN | apply keep_drew | apply keep_alloc) | exact HK.out)))); replace HK := A0_ (KeepBut.trans (by repeat (first | (with_reducible first | exact HK.out | apply KeepBut.set_ | apply keep_drewN | apply keep_drew | apply keep_alloc) | exact HK.out)) (KeepBut.of_below hb g none) (.inl rfl)); replace HB := A0_ (bT (by repeat (first | (with_reducible first | exact HB.out | apply bA | apply bN | apply bD | refine bS ?_ (IsS82.ge HI0.out)) | exact HB.out)) hb); replace HI0 := A0_ (IsS82.below (by repeat (first | (with_reducible first | exact HI0.out | apply IsS82.alloc | apply IsS82.drewN | apply IsS82.drew | apply IsS82.set_1) | exact HI0.out)) hb); clear hb ho12) | ((with_reducible refine gC (f := 74) rfl ?_); refine zJ (some 15) Try.func74 #[.pointer (some ⟨g, 0, none⟩), .int .i64 2] ?_; (with_reducible refine (spec_l6Rd_pick.calls kj2 g s0_0 x1001_2 2 t341 t342 w0 _ ?side1 ?side2 A8.out).mono ?_); (case side1 => repeat (first | (with_reducible first | exact HI0.out | apply IsS82.alloc | apply IsS82.drewN | apply IsS82.drew | apply IsS82.set_1) | exact HI0.out)); (case side2 => repeat (first | (with_reducible first | exact HB.out | apply bA | apply bN | apply bD | refine bS ?_ (IsS82.ge HI0.out)) | exact HB.out)); rintro e w13 ⟨rfl, hi, hb, hk⟩; refine ⟨_, rfl, ?_⟩; replace HO340 := A0_ (rM (Kd.R_keep (IsS82.apart (show IsS82 w0 _ g s0_0 x1001_2 from by repeat (first | (with_reducible first | exact HI0.out | apply IsS82.alloc | apply IsS82.drewN | apply IsS82.drew | apply IsS82.set_1) | exact HI0.out)) (zR_ HO340) (by decide)) hk (fun _ h => h.2)) (fun _ h => h.1)); replace HK := A0_ (KeepBut.trans (by repeat (first | (with_reducible first | exact HK.out | apply KeepBut.set_ | apply keep_drewN | apply keep_drew | apply keep_alloc) | exact HK.out)) hk (.inl rfl)); replace HB := A0_ (hb); replace HI0 := A0_ (hi); (try clear hb); obtain ⟨Ao14, co14, eo14⟩ := rS HO340.out; subst eo14; have p343 : 0 ≤ (t341 : Int) := zd; have q343 : t341 < (y338.length : Int) := zd; obtain ⟨ad343, e343, hx343_0⟩ := tI (rR HO340.out).2.2 t341 p343 q343; cases e343; replace p343 := eq_true p343; replace q343 := eq_true q343))
      go_ret
      exact ⟨by first | rfl | (simp [*] <;> rfl), by repeat (first | (with_reducible first | exact HI0.out | apply IsS82.alloc | apply IsS82.drewN | apply IsS82.drew | apply IsS82.set_1) | exact HI0.out), by repeat (first | (with_reducible first | exact HB.out | apply bA | apply bN | apply bD | refine bS ?_ (IsS82.ge HI0.out)) | exact HB.out), by repeat (first | (with_reducible first | exact HK.out | apply KeepBut.set_ | apply keep_drewN | apply keep_drew | apply keep_alloc) | exact HK.out)⟩
     rw [if_neg c10] at H
     exact absurd H (by simp)
    rw [if_neg c9] at H
    exact absurd H (by simp)
   replace c7 := Bool.eq_false_iff.mpr c7; subst c7
   have H1 : ((spec_l6Rd_pick.f kj2 s0_0 x1001_2 a1).bind fun bt344 => (some (bt344.1, bt344.2))) = some (r1, r2) := by rw [if_neg (show ¬ (false = true) by decide)] at H; exact H
   clear H; have H := H1; clear H1; obtain ⟨⟨t344, t345⟩, A15, H⟩ := zbind H
   replace H : (some (t344, t345)) = some (r1, r2) := H
   simp only [Option.some.injEq, Prod.mk.injEq] at H; obtain ⟨rfl, rfl⟩ := H
   go_wp2_with (first | ((with_reducible refine gC (f := 74) rfl ?_); refine zJ (some 20) Try.func74 #[.pointer (some ⟨g, 0, none⟩), .int .i64 a1] ?_; (with_reducible refine (spec_l6Rd_pick.calls kj2 g s0_0 x1001_2 a1 t344 t345 w0 _ ?side1 ?side2 A15.out).mono ?_); (case side1 => repeat (first | (with_reducible first | exact HI0.out | apply IsS82.alloc | apply IsS82.drewN | apply IsS82.drew | apply IsS82.set_1) | exact HI0.out)); (case side2 => repeat (first | (with_reducible first | exact HB.out | apply bA | apply bN | apply bD | refine bS ?_ (IsS82.ge HI0.out)) | exact HB.out)); rintro e w16 ⟨rfl, hi, hb, hk⟩; refine ⟨_, rfl, ?_⟩; replace HK := A0_ (KeepBut.trans (by repeat (first | (with_reducible first | exact HK.out | apply KeepBut.set_ | apply keep_drewN | apply keep_drew | apply keep_alloc) | exact HK.out)) hk (.inl rfl)); replace HB := A0_ (hb); replace HI0 := A0_ (hi); (try clear hb)))
   go_ret
   exact ⟨by first | rfl | (simp [*] <;> rfl), by repeat (first | (with_reducible first | exact HI0.out | apply IsS82.alloc | apply IsS82.drewN | apply IsS82.drew | apply IsS82.set_1) | exact HI0.out), by repeat (first | (with_reducible first | exact HB.out | apply bA | apply bN | apply bD | refine bS ?_ (IsS82.ge HI0.out)) | exact HB.out), by repeat (first | (with_reducible first | exact HK.out | apply KeepBut.set_ | apply keep_drewN | apply keep_drew | apply keep_alloc) | exact HK.out)⟩

/-! ### spec_DrawCoverWinding: function 44 -/
def spec_DrawCoverWinding.f (k : Nat) (l0 : List Int) : Option (List Int × List Int × Int × (List (List Int)) × Int) := (spec_l6Open.f l0).bind fun bt347 => ((spec_l92Cover.f k bt347.1 bt347.2).bind fun bt350 => ((spec_l91At.f k bt347.1 bt350.2.2.2.2 (bt350.1.length : Int)).bind fun bt362 => (some (bt350.1, bt350.2.1, bt350.2.2.1, bt350.2.2.2.1, bt362.1))))
def spec_DrawCoverWinding.T3 : Bool × List (List Nat × List Nat) := (true, [([], []), ([], []), ([], []), ([], []), ([], []), ([4], [4]), ([5], [5]), ([3, 6], [3, 6]), ([0, 7, 0], [0]), ([1, 8, 0, 1, 8], [1]), ([2, 9, 0, 1, 2, 8, 9], [2]), ([7, 10, 0, 1, 2, 3, 4, 5, 6, 7, 8, 9, 10], [7])])
def spec_DrawCoverWinding.B3 : List Nat := [0, 0, 0, 0, 0, 16, 48, 120, 249, 507, 1023, 2047]
theorem spec_DrawCoverWinding.tab3 : rtab .any (opsOf Try.f44 3) = spec_DrawCoverWinding.T3 := by kernel_rfl
theorem spec_DrawCoverWinding.bits3 : waitsOk spec_DrawCoverWinding.T3.2 spec_DrawCoverWinding.B3 = true := by kernel_rfl
set_option maxHeartbeats 8000000 in
set_option maxRecDepth 100000 in
theorem spec_DrawCoverWinding.calls (k : Nat) (A0 : Option Addr) (c0 : Nat) (l0 : List Int) (r1 : List Int) (r2 : List Int) (r3 : Int) (r4 : List (List Int)) (r5 : Int) (w : World) (hr0 : Kd.C (Kd.int .u8) w A0 l0.length l0) (hc0 : l0.length ≤ c0) (h : spec_DrawCoverWinding.f k l0 = some (r1, r2, r3, r4, r5)) :
    Calls Try.prog 44 #[.slice A0 l0.length c0] w fun e w' => ∃ v0_ v1_ v3_ : Value, e = .returned (.tuple #[.agg #[v0_, v1_], .int .i64 r3, v3_, .int .i64 r5]) ∧ Kd.Q (Kd.int .i64) 3 w' w.heap.size (fun k_ => some k_ ≠ (v1_ : Value).ownBlock) v0_ r1 ∧ Kd.R (Kd.int .i64) 3 w' w.heap.size (fun k_ => some k_ ≠ (v0_ : Value).ownBlock) v1_ r2 ∧ Kd.S (Kd.slice 3 (Kd.int .i64)) 23 w' w.heap.size (fun k_ => some k_ ≠ (v0_ : Value).ownBlock ∧ some k_ ≠ (v1_ : Value).ownBlock) v3_ r4 ∧ Below w.heap.size w w' := by
 have hu25 := Try.underlying25; have HR0 := A0_ hr0; have HC0 := A0_ hc0; clear hr0 hc0
 have HB := A0_ (Below.refl w.heap.size w)
 have H : ((spec_l6Open.f l0).bind fun bt347 => ((spec_l92Cover.f k bt347.1 bt347.2).bind fun bt350 => ((spec_l91At.f k bt347.1 bt350.2.2.2.2 (bt350.1.length : Int)).bind fun bt362 => (some (bt350.1, bt350.2.1, bt350.2.2.1, bt350.2.2.2.1, bt362.1))))) = some (r1, r2, r3, r4, r5) := h
 clear h; obtain ⟨⟨t347, t348⟩, A2, H⟩ := zbind H; dsimp only at H; obtain ⟨⟨t350, t353, t356, t357, t360⟩, A3, H⟩ := zbind H; dsimp only at H; obtain ⟨⟨t362, t363⟩, A4, H⟩ := zbind H; dsimp only at H; simp only [Option.some.injEq, Prod.mk.injEq] at H; obtain ⟨rfl, rfl, rfl, rfl, rfl⟩ := H
 go_enter Try.func44, Try.ntmps44
 try go_wp2_with (first | ((with_reducible refine gD (N := 2) rfl ?_); refine zX (N := 2) (cs := #[.slice none 0 0, .slice none 0 0]) (t := 25) ?_; intro gb346 hg w5 hbox hb; have BK346 := A0_ (hbox); have GW346 := zG hg HB; have GE346 := zG hg HB; replace HB := zB HB hb; clear hb hbox hg) | ((with_reducible refine gC (f := 52) rfl ?_); refine zJ (some 11) Try.func52 #[.slice A0 l0.length c0] ?_; (with_reducible refine (spec_l6Open.calls _ _ l0 t347 t348 w _ ?side1 ?side2 ?side3 A2.out).mono ?_); (case side1 => repeat (first | (with_reducible first | exact HB.out | apply bA | apply bN | apply bD | refine bS ?_ GE346.out) | exact HB.out)); (case side2 => exact HR0.out); (case side3 => exact HC0.out); rintro e w6 ⟨g349, rfl, hi, hb, hb2⟩; refine ⟨_, rfl, ?_⟩; replace HB := A0_ (hb); have HI349 := A0_ (hi); have NB349_346 := A0_ (IsS82.ne_blk hi (kB (g := gb346) (o := .cells #[.slice none 0 0, .slice none 0 0] 25 (0, 0)) (zK_ BK346) hb2) (by decide)); have NB346_349 := A0_ (Ne.symm (IsS82.ne_blk hi (kB (g := gb346) (o := .cells #[.slice none 0 0, .slice none 0 0] 25 (0, 0)) (zK_ BK346) hb2) (by decide))); replace BK346 := A0_ (kB (g := gb346) (o := .cells #[.slice none 0 0, .slice none 0 0] 25 (0, 0)) (zK_ BK346) hb2); (try clear hb)) | ((with_reducible refine gC (f := 51) rfl ?_); refine zJ (some 14) Try.func51 #[.pointer (some ⟨g349, 0, none⟩)] ?_; (with_reducible refine (spec_l92Cover.calls k g349 t347 t348 t350 t353 t356 t357 t360 w _ ?side1 ?side2 A3.out).mono ?_); (case side1 => repeat (first | (with_reducible first | exact HI349.out | apply IsS82.alloc | apply IsS82.drewN | apply IsS82.drew | apply IsS82.set_1 | refine IsS82.far ?_ NB349_346.out _) | exact HI349.out)); (case side2 => repeat (first | (with_reducible first | exact HB.out | apply bA | apply bN | apply bD | refine bS ?_ (IsS82.ge HI349.out) | refine bS ?_ GE346.out) | exact HB.out)); rintro e w7 ⟨v351, v354, v358, rfl, ho0, ho1, ho2, hi, hb, hk⟩; refine ⟨_, rfl, ?_⟩; replace BK346 := A0_ (KeepBut.blk hk (g' := gb346) (o := .cells #[.slice none 0 0, .slice none 0 0] 25 (0, 0)) (zK_ BK346) NB346_349.out (by simp)); have HO352 := A0_ (Kd.Q_lower ho0 (bZ (by repeat (first | (with_reducible first | exact HB.out | apply bA | apply bN | apply bD | refine bS ?_ (IsS82.ge HI349.out) | refine bS ?_ GE346.out) | exact HB.out)))); have HO355 := A0_ (rL ho1 (bZ (by repeat (first | (with_reducible first | exact HB.out | apply bA | apply bN | apply bD | refine bS ?_ (IsS82.ge HI349.out) | refine bS ?_ GE346.out) | exact HB.out)))); have HO359 := A0_ (Kd.S_lower ho2 (bZ (by repeat (first | (with_reducible first | exact HB.out | apply bA | apply bN | apply bD | refine bS ?_ (IsS82.ge HI349.out) | refine bS ?_ GE346.out) | exact HB.out)))); replace HB := A0_ (hb); replace HI349 := A0_ (hi); (try clear hb); (try clear ho0); (try clear ho1); (try clear ho2)) | ((with_reducible refine gD (N := 7) rfl ?_); refine zX (N := 7) (cs := #[.slice none 0 0, .slice none 0 0]) (t := 25) ?_; intro gb361 hg w8 hbox hb; replace HO352 := A0_ (Kd.Q_below (zQ_ HO352) hb); replace HO355 := zR HO355 hb; replace HO359 := zS HO359 hb; have BK361 := A0_ (hbox); have GW361 := A0_ ((by rw [hg]; exact (bZ (by repeat (first | (with_reducible first | exact HB.out | apply bA | apply bN | apply bD | refine bS ?_ (IsS82.ge HI349.out) | refine bS ?_ GE346.out) | exact HB.out))) : w.heap.size ≤ gb361)); have GE361 := A0_ ((by rw [hg]; exact (bZ (by repeat (first | (with_reducible first | exact HB.out | apply bA | apply bN | apply bD | refine bS ?_ (IsS82.ge HI349.out) | refine bS ?_ GE346.out) | exact HB.out))) : w.heap.size ≤ gb361)); replace HB := A0_ (bT (by repeat (first | (with_reducible first | exact HB.out | apply bA | apply bN | apply bD | refine bS ?_ (IsS82.ge HI349.out) | refine bS ?_ GE346.out) | exact HB.out)) hb); have NB346_361 := zL hg BK346; have NB361_346 := zM hg BK346; replace BK346 := zK BK346 hb; have NB349_361 := A0_ ((by rw [hg]; exact Nat.ne_of_lt (IsS82.lt (show IsS82 w _ g349 t347 t360 from by repeat (first | (with_reducible first | exact HI349.out | apply IsS82.alloc | apply IsS82.drewN | apply IsS82.drew | apply IsS82.set_1 | refine IsS82.far ?_ NB349_346.out _) | exact HI349.out))) : g349 ≠ gb361)); have NB361_349 := A0_ ((by rw [hg]; exact Nat.ne_of_gt (IsS82.lt (show IsS82 w _ g349 t347 t360 from by repeat (first | (with_reducible first | exact HI349.out | apply IsS82.alloc | apply IsS82.drewN | apply IsS82.drew | apply IsS82.set_1 | refine IsS82.far ?_ NB349_346.out _) | exact HI349.out))) : gb361 ≠ g349)); replace HI349 := A0_ (IsS82.below (by repeat (first | (with_reducible first | exact HI349.out | apply IsS82.alloc | apply IsS82.drewN | apply IsS82.drew | apply IsS82.set_1 | refine IsS82.far ?_ NB349_346.out _) | exact HI349.out)) hb); clear hb hbox hg; obtain ⟨Ao9, co9, eo9, _⟩ := Kd.Q_slice HO352.out; subst eo9; have hnb10 := NB361_346.out; have hnc10 := NB346_361.out; have hnb11 := NB361_349.out; have hnc11 := NB349_361.out; have hcz12_0 := zc0 BK361; have hcz12_1 := zc1 BK361; have hfz12_0 := kF BK361.out 0; have hfz12_1 := kF BK361.out 1; obtain ⟨Ao13, co13, eo13⟩ := rS HO355.out; subst eo13))
 have n0_ : Aside0 (Kd.Q (Kd.int .i64) 3 ((w8.setCell ⟨gb361, 0, none⟩ (.slice Ao9 t350.length co9)).setCell ⟨gb361, 1, none⟩ (.slice Ao13 t353.length co13)) w.heap.size (fun k_ => some k_ ≠ (.slice Ao13 t353.length co13 : Value).ownBlock) (.slice Ao9 t350.length co9) t350) := ⟨by (with_reducible repeat (first | apply Kd.Q_alloc | apply Kd.Q_drewN | apply Kd.Q_drew)); exact Kd.Q_mono (Kd.Q_far (p := ⟨gb361, 1, none⟩) (Kd.Q_far (p := ⟨gb361, 0, none⟩) (Kd.Q_types HO352.out BK361.out (by decide)) (fun _ hk => hk.2) (.slice Ao9 t350.length co9)) (fun _ hk => hk.2) (.slice Ao13 t353.length co13)) (fun _ hk => hk.1)⟩
 have n1_ : Aside0 (Kd.R (Kd.int .i64) 3 ((w8.setCell ⟨gb361, 0, none⟩ (.slice Ao9 t350.length co9)).setCell ⟨gb361, 1, none⟩ (.slice Ao13 t353.length co13)) w.heap.size (fun k_ => some k_ ≠ (.slice Ao9 t350.length co9 : Value).ownBlock) (.slice Ao13 t353.length co13) t353) := ⟨zF HO355 BK361 (.slice Ao9 t350.length co9) (.slice Ao13 t353.length co13) 0 1⟩
 have n2_ : Aside0 (Kd.S (Kd.slice 3 (Kd.int .i64)) 23 ((w8.setCell ⟨gb361, 0, none⟩ (.slice Ao9 t350.length co9)).setCell ⟨gb361, 1, none⟩ (.slice Ao13 t353.length co13)) w.heap.size (fun k_ => some k_ ≠ (.slice Ao9 t350.length co9 : Value).ownBlock ∧ some k_ ≠ (.slice Ao13 t353.length co13 : Value).ownBlock) v358 t357) := ⟨by (with_reducible repeat (first | apply sA | apply sN | apply sD)); exact sM (Kd.S_far (p := ⟨gb361, 1, none⟩) (Kd.S_far (p := ⟨gb361, 0, none⟩) (Kd.S_types HO359.out BK361.out (by decide)) (fun _ hk => hk.2) (.slice Ao9 t350.length co9)) (fun _ hk => hk.2) (.slice Ao13 t353.length co13)) (fun _ hk => ⟨hk.1.1, hk.1.2⟩)⟩
 have n3_ : Aside0 (((w8.setCell ⟨gb361, 0, none⟩ (.slice Ao9 t350.length co9)).setCell ⟨gb361, 1, none⟩ (.slice Ao13 t353.length co13)).heap[gb346]? = some (.cells #[.slice none 0 0, .slice none 0 0] 25 (0, 0))) := ⟨by (with_reducible repeat (first | refine kN ?_ _ | refine kD ?_ | refine kA ?_ _)); refine blk_far ?_ NB346_361.out _; (with_reducible repeat (first | refine kN ?_ _ | refine kD ?_ | refine kA ?_ _)); refine blk_far ?_ NB346_361.out _; (with_reducible repeat (first | refine kN ?_ _ | refine kD ?_ | refine kA ?_ _)); exact BK346.out⟩
 have n4_ : Aside0 (((w8.setCell ⟨gb361, 0, none⟩ (.slice Ao9 t350.length co9)).setCell ⟨gb361, 1, none⟩ (.slice Ao13 t353.length co13)).heap[gb361]? = some (.cells #[.slice Ao9 t350.length co9, .slice Ao13 t353.length co13] 25 (0, 0))) := ⟨by (with_reducible repeat (first | refine kN ?_ _ | refine kD ?_ | refine kA ?_ _)); refine blk_put (cs := #[.slice Ao9 t350.length co9, .slice none 0 0]) ?_ 1 _ rfl; (with_reducible repeat (first | refine kN ?_ _ | refine kD ?_ | refine kA ?_ _)); refine blk_put (cs := #[.slice none 0 0, .slice none 0 0]) ?_ 0 _ rfl; (with_reducible repeat (first | refine kN ?_ _ | refine kD ?_ | refine kA ?_ _)); exact BK361.out⟩
 have n5_ : Aside0 (IsS82 w ((w8.setCell ⟨gb361, 0, none⟩ (.slice Ao9 t350.length co9)).setCell ⟨gb361, 1, none⟩ (.slice Ao13 t353.length co13)) g349 t347 t360) := ⟨by repeat (first | (with_reducible first | exact HI349.out | apply IsS82.alloc | apply IsS82.drewN | apply IsS82.drew | apply IsS82.set_1 | refine IsS82.far ?_ NB349_346.out _ | refine IsS82.far ?_ NB349_361.out _) | exact HI349.out)⟩
 have n6_ : Aside0 (Below w.heap.size w ((w8.setCell ⟨gb361, 0, none⟩ (.slice Ao9 t350.length co9)).setCell ⟨gb361, 1, none⟩ (.slice Ao13 t353.length co13))) := ⟨by repeat (first | (with_reducible first | exact HB.out | apply bA | apply bN | apply bD | refine bS ?_ (IsS82.ge HI349.out) | refine bS ?_ GE346.out | refine bS ?_ GE361.out) | exact HB.out)⟩
 (try clear HO352); (try clear HO355); (try clear HO359); (try clear BK346); (try clear BK361); (try clear HI349); (try clear HB)
 generalize ((w8.setCell ⟨gb361, 0, none⟩ (.slice Ao9 t350.length co9)).setCell ⟨gb361, 1, none⟩ (.slice Ao13 t353.length co13)) = w14 at n0_ n1_ n2_ n3_ n4_ n5_ n6_ ⊢
 have HO352 := n0_; have HO355 := n1_; have HO359 := n2_; have BK346 := n3_; have BK361 := n4_; have HI349 := n5_; have HB := n6_; clear n0_ n1_ n2_ n3_ n4_ n5_ n6_
 replace HO352 := A0_ (Kd.Q_drew HO352.out)
 replace HO355 := A0_ (rD HO355.out)
 replace HO359 := A0_ (sD HO359.out)
 replace BK346 := A0_ (kD BK346.out)
 replace BK361 := A0_ (kD BK361.out)
 replace HI349 := A0_ (IsS82.drew HI349.out)
 replace HB := A0_ (bD HB.out)
 refine start_ (n := 12) (S := fun w' => w'.cell? ⟨gb361, 0, none⟩ = some (.slice Ao9 t350.length co9) ∧ w'.cell? ⟨gb361, 1, none⟩ = some (.slice Ao13 t353.length co13)) (ds := []) #[false, false, false, false, false, false, false, false, false, false, false, false] (by kernel_rfl) rfl rfl ⟨(kC BK361.out 0).trans rfl, (kC BK361.out 1).trans rfl⟩ (fun hHeld => ?_); refine with_tabW spec_DrawCoverWinding.tab3 spec_DrawCoverWinding.bits3 (fun HT_ HW_ => ?_)
 generalize w14.drew = w15 at HO352 HO355 HO359 BK346 BK361 HI349 HB hHeld ⊢
 refine zP 1 (some 19) #[false,true,false,false,false,false,false,false,false,false,false,false] ?_
 refine zP 2 (some 20) #[false,true,true,false,false,false,false,false,false,false,false,false] ?_
 refine zP 3 (some 21) #[false,true,true,true,false,false,false,false,false,false,false,false] ?_
 refine zP 4 (some 22) #[false,true,true,true,true,false,false,false,false,false,false,false] ?_
 refine take_ (i := 0) (N := some 18) (v := ?_) (a' := ?_) #[true, true, true, true, true, false, false, false, false, false, false, false] rfl rfl (take_ofW HT_.out HW_.out (by kernel_rfl)) (fun _ _ _ h => h) (Or.inl ⟨by rfl, ?_⟩) hHeld ?_ ?_
 rotate_left
 ·rintro w' ⟨s0, s1⟩
  go_simp
  with_reducible rfl
 rotate_left
 ·simp only [Act.put, List.setIfInBounds_toArray, List.set_cons_zero, List.set_cons_succ, i64_w, i32_w]
  rfl
 refine take_ (i := 5) (N := some 23) (v := ?_) (a' := ?_) #[true, true, true, true, true, true, false, false, false, false, false, false] rfl rfl (take_ofW HT_.out HW_.out (by kernel_rfl)) (fun _ _ _ h => h) (Or.inl ⟨by rfl, ?_⟩) hHeld ?_ ?_
 rotate_left
 ·rintro w' ⟨s0, s1⟩
  go_simp
  with_reducible rfl
 rotate_left
 ·simp only [Act.put, List.setIfInBounds_toArray, List.set_cons_zero, List.set_cons_succ, i64_w, i32_w]
  rfl
 refine zP 6 (some 24) #[true,true,true,true,true,true,true,false,false,false,false,false] ?_
 refine one_ (i := 7) (N := some 25) #[true, true, true, true, true, true, true, true, false, false, false, false] rfl rfl (one_of HT_.out (by kernel_rfl)) (by decide) (fun K hK => ?_)
 refine goes_ Try.func85 (by kernel_rfl) rfl #[.pointer (some ⟨g349, 0, none⟩), .int .i64 (t350.length : Int)] (by rfl) rfl rfl (by (try simp only [List.map_toArray, List.map_cons, List.map_nil]); first | done | rfl | (simp only [List.length_drop, List.length_take]; rfl)) ?_
 with_reducible refine (spec_l91At.calls k g349 t347 t360 (t350.length : Int) t362 t363 w _ ?side1 ?side2 A4.out).mono ?_
 (case side1 => repeat (first | (with_reducible first | exact HI349.out | apply IsS82.alloc | apply IsS82.drewN | apply IsS82.drew | apply IsS82.set_1 | refine IsS82.far ?_ NB349_346.out _ | refine IsS82.far ?_ NB349_361.out _) | exact HI349.out))
 (case side2 => repeat (first | (with_reducible first | exact HB.out | apply bA | apply bN | apply bD | refine bS ?_ (IsS82.ge HI349.out) | refine bS ?_ GE346.out | refine bS ?_ GE361.out) | exact HB.out))
 rintro e w16 ⟨rfl, hi, hb, hk⟩
 refine ⟨_, rfl, ?_⟩
 replace BK346 := A0_ (KeepBut.blk hk (g' := gb346) (o := .cells #[.slice none 0 0, .slice none 0 0] 25 (0, 0)) (zK_ BK346) NB346_349.out (by simp))
 replace HO352 := A0_ (Kd.Q_mono (Kd.Q_keep (IsS82.apartQ (show IsS82 w _ g349 t347 t360 from by repeat (first | (with_reducible first | exact HI349.out | apply IsS82.alloc | apply IsS82.drewN | apply IsS82.drew | apply IsS82.set_1 | refine IsS82.far ?_ NB349_346.out _ | refine IsS82.far ?_ NB349_361.out _) | exact HI349.out)) (zQ_ HO352) (by decide)) hk (fun _ h => h.2)) (fun _ h => h.1))
 replace HO355 := A0_ (rM (Kd.R_keep (IsS82.apart (show IsS82 w _ g349 t347 t360 from by repeat (first | (with_reducible first | exact HI349.out | apply IsS82.alloc | apply IsS82.drewN | apply IsS82.drew | apply IsS82.set_1 | refine IsS82.far ?_ NB349_346.out _ | refine IsS82.far ?_ NB349_361.out _) | exact HI349.out)) (zR_ HO355) (by decide)) hk (fun _ h => h.2)) (fun _ h => h.1))
 replace HO359 := A0_ (sM (Kd.S_keep (IsS82.apartS (show IsS82 w _ g349 t347 t360 from by repeat (first | (with_reducible first | exact HI349.out | apply IsS82.alloc | apply IsS82.drewN | apply IsS82.drew | apply IsS82.set_1 | refine IsS82.far ?_ NB349_346.out _ | refine IsS82.far ?_ NB349_361.out _) | exact HI349.out)) (zS_ HO359) (by decide)) hk (fun _ h => h.2)) (fun _ h => h.1))
 replace BK361 := A0_ (KeepBut.blk hk (g' := gb361) (o := .cells #[.slice Ao9 t350.length co9, .slice Ao13 t353.length co13] 25 (0, 0)) (zK_ BK361) NB361_349.out (by simp))
 replace HB := A0_ (hb)
 replace HI349 := A0_ (hi)
 (try clear hb); (try clear hb2); (try clear hk); (try clear hi)
 refine hK.out _ _ ⟨(kC BK361.out 0).trans rfl, (kC BK361.out 1).trans rfl⟩ (fun hHeld => ?_)
 clear hK K
 refine norm_ (a' := ?_) ?_ ?_
 rotate_left
 ·show Act.put _ (some 25) _ = _
  simp only [Act.put, List.setIfInBounds_toArray, List.set_cons_zero, List.set_cons_succ, i64_w, i32_w]
  rfl
 refine one_ (i := 8) (N := none) #[true, true, true, true, true, true, true, true, true, false, false, false] rfl rfl (one_of HT_.out (by kernel_rfl)) (by decide) (fun K hK => ?_)
 have hs17 : w16.cell? ⟨gb346, 0, none⟩ = some (.slice none 0 0) := (kC BK346.out 0).trans rfl
 have hfs17 := kF BK346.out 0; have hns17_1 := NB361_346.out; have hms17_1 := NB346_361.out
 have hs18 : w16.cell? ⟨gb346, 1, none⟩ = some (.slice none 0 0) := (kC BK346.out 1).trans rfl
 have hfs18 := kF BK346.out 1; have hns18_1 := NB361_346.out; have hms18_1 := NB346_361.out
 refine skip_ (w1 := ?_) (by rfl) rfl ?_ ?_
 rotate_left
 ·go_simp
  rfl
 refine hK.out _ _ ⟨((cell_far (p := ⟨gb346, _, none⟩) NB361_346.out _).trans (((cell_far (p := ⟨gb346, _, none⟩) NB361_346.out _).trans (hHeld.1)))), ((cell_far (p := ⟨gb346, _, none⟩) NB361_346.out _).trans (((cell_far (p := ⟨gb346, _, none⟩) NB361_346.out _).trans (hHeld.2))))⟩ (fun hHeld => ?_)
 clear hK K
 refine zP 9 (some 3) #[true,true,true,true,true,true,true,true,true,true,false,false] ?_
 refine zP 10 (some 4) #[true,true,true,true,true,true,true,true,true,true,true,false] ?_
 refine zP 11 (some 5) #[true,true,true,true,true,true,true,true,true,true,true,true] ?_
 refine done_ (done_of HT_.out (by kernel_rfl)) ?_
 try go_wp2
 refine bodyPost_ret (results_list (rs := [.cell 2 25, .tmp 3, .tmp 4, .tmp 5]) rfl (by simp) (.cell gb346 25 #[.slice Ao9 t350.length co9, .slice Ao13 t353.length co13] (0, 0) _ rfl (by (with_reducible repeat (first | refine kN ?_ _ | refine kD ?_ | refine kA ?_ _)); refine blk_put (cs := #[.slice Ao9 t350.length co9, .slice none 0 0]) ?_ 1 _ rfl; (with_reducible repeat (first | refine kN ?_ _ | refine kD ?_ | refine kA ?_ _)); refine blk_put (cs := #[.slice none 0 0, .slice none 0 0]) ?_ 0 _ rfl; (with_reducible repeat (first | refine kN ?_ _ | refine kD ?_ | refine kA ?_ _)); exact BK346.out) Try.underlying25 rfl (by kernel_rfl) (.tmp (.tmp (.tmp .nil))))) rfl ?_
 exact ⟨_, _, _, by first | rfl | (simp [*] <;> rfl), by (with_reducible repeat (first | apply Kd.Q_alloc | apply Kd.Q_drewN | apply Kd.Q_drew)); exact Kd.Q_mono (Kd.Q_far (p := ⟨gb346, 1, none⟩) (Kd.Q_far (p := ⟨gb346, 0, none⟩) (Kd.Q_types HO352.out BK346.out (by decide)) (fun _ hk => hk.2) (.slice Ao9 t350.length co9)) (fun _ hk => hk.2) (.slice Ao13 t353.length co13)) (fun _ hk => hk.1), zF HO355 BK346 (.slice Ao9 t350.length co9) (.slice Ao13 t353.length co13) 0 1, by (with_reducible repeat (first | apply sA | apply sN | apply sD)); exact sM (Kd.S_far (p := ⟨gb346, 1, none⟩) (Kd.S_far (p := ⟨gb346, 0, none⟩) (Kd.S_types HO359.out BK346.out (by decide)) (fun _ hk => hk.2) (.slice Ao9 t350.length co9)) (fun _ hk => hk.2) (.slice Ao13 t353.length co13)) (fun _ hk => ⟨hk.1.1, hk.1.2⟩), by repeat (first | (with_reducible first | exact HB.out | apply bA | apply bN | apply bD | refine bS ?_ (IsS82.ge HI349.out) | refine bS ?_ GE346.out | refine bS ?_ GE361.out) | exact HB.out)⟩

/-! ### impl_cyclesOf: function 68 -/
mutual
def impl_cyclesOf.l0 : Nat → List Int → List (List Int) → List Bool → Int → Int → Option ((List (List Int)))
  | 0, _, _, _, _, _ => none
  | k + 1, x0, x3, x4, x13, x14 => if x14 < x13 then (impl_cyclesOf.l1 k x0 x3 x4 (([] : List Int)) x14 x13 x14) else (some x3)
def impl_cyclesOf.l1 : Nat → List Int → List (List Int) → List Bool → List Int → Int → Int → Int → Option ((List (List Int)))
  | 0, _, _, _, _, _, _, _ => none
  | k + 1, x0, x3, x4, x6, x7, x13, x14 => if 0 ≤ x7 then (if x7 < (x4.length : Int) then (if rdOf false x4 x7 = true then (if (x6.length : Int) > 0 then (if x3.length < 5864062014805 then (impl_cyclesOf.l0 k x0 (x3 ++ [x6]) x4 x13 (wrap64 (x14 + 1))) else (none)) else (impl_cyclesOf.l0 k x0 x3 x4 x13 (wrap64 (x14 + 1)))) else (if x6.length < 17592186044416 then (if x7 < (x0.length : Int) then (impl_cyclesOf.l1 k x0 x3 (x4.set (x7 : Int).toNat true) (x6 ++ [x7]) (rd x0 x7) x13 x14) else (none)) else (none))) else (none)) else (none)
end
def impl_cyclesOf.f (k : Nat) (l0 : List Int) : Option ((List (List Int))) := if 0 ≤ (l0.length : Int) then (if ((l0.length : Int) : Int).toNat ≤ 281474976710656 then (impl_cyclesOf.l0 k l0 (([] : List (List Int))) (List.replicate ((l0.length : Int) : Int).toNat false) (l0.length : Int) 0) else (none)) else (none)
set_option maxHeartbeats 8000000 in
set_option maxRecDepth 100000 in
theorem impl_cyclesOf.calls (k : Nat) (A0 : Option Addr) (c0 : Nat) (l0 : List Int) (r : List (List Int)) (w : World) (hr0 : Kd.C (Kd.int .i64) w A0 l0.length l0) (hc0 : l0.length ≤ c0) (h : impl_cyclesOf.f k l0 = some r) :
    Calls Try.prog 68 #[.slice A0 l0.length c0] w fun e w' => ∃ v0_ : Value, e = .returned (v0_) ∧ Kd.S (Kd.slice 3 (Kd.int .i64)) 23 w' w.heap.size (fun _ => True) v0_ r ∧ Below w.heap.size w w' := by
 have HR0 := A0_ hr0; have HC0 := A0_ hc0; clear hr0 hc0
 have HB := A0_ (Below.refl w.heap.size w)
 have H : (if 0 ≤ (l0.length : Int) then (if ((l0.length : Int) : Int).toNat ≤ 281474976710656 then (impl_cyclesOf.l0 k l0 (([] : List (List Int))) (List.replicate ((l0.length : Int) : Int).toNat false) (l0.length : Int) 0) else (none)) else (none)) = some r := h
 clear h
 obtain ⟨y364, hy364⟩ : ∃ y_ : List (List Int), y_ = (([] : List (List Int))) := ⟨_, rfl⟩
 replace H : (if 0 ≤ (l0.length : Int) then (if ((l0.length : Int) : Int).toNat ≤ 281474976710656 then (impl_cyclesOf.l0 k l0 y364 (List.replicate ((l0.length : Int) : Int).toNat false) (l0.length : Int) 0) else (none)) else (none)) = some r := zH hy364 H
 have Ny364 := A0_ hy364; clear hy364
 by_cases c2 : 0 ≤ (l0.length : Int)
 ·rw [if_pos c2] at H
  have c2b0 := eq_true c2; have c2b1 := dT c2; clear c2
  by_cases c3 : ((l0.length : Int) : Int).toNat ≤ 281474976710656
  ·rw [if_pos c3] at H
   have c3b0 := eq_true c3; have c3b1 := dT c3; clear c3
   obtain ⟨y367, hy367⟩ : ∃ y_ : List Bool, y_ = (List.replicate ((l0.length : Int) : Int).toNat false) := ⟨_, rfl⟩
   replace H : (impl_cyclesOf.l0 k l0 y364 y367 (l0.length : Int) 0) = some r := zH hy367 H
   have Ny367 := A0_ hy367; clear hy367; have H' := A0_ H; clear H
   go_enter Try.func68, Try.ntmps68
   go_wp2_with (first | ((with_reducible refine gD (N := 8) rfl ?_); refine Kd.S_lit (Kd.slice 3 (Kd.int .i64)) _ 23 ?hg (N := 8) ?hd (xs := ([] : List (List Int))) (inner := []) (ok := fun _ => True) (okp := fun _ => True) ?hr ?hp (fun _ hk => hk) trivial (Below.refl _ _) (Nat.le_refl _) (by simp) ?_; (case hd => rfl); (case hg => rfl); (case hr => first | (go_simp; done) | (go_simp; rfl)); (case hp => exact (Reps.none _ _)); intro v365 w4 ho5 hb hg_ hnew_; clear hg_ hnew_; (first | rw [← Ny364.out] at ho5 | (simp only [Int.reduceToNat] at ho5; rw [← Ny364.out] at ho5)); have HO366 := A0_ (Kd.S_lower ho5 (bZ (zB_ HB))); replace HB := zB HB hb; clear hb ho5) | ((with_reducible refine gD (N := 11) rfl ?_); refine Kd.R_make Kd.bool _ 4 rfl (N := 11) rfl 60 _ _ rfl (l0.length : Int) rfl rfl Try.underlying60 (.bool false) 1 info4 rfl (by decide) (by omega) false (ok := fun _ => True) (okp := fun _ => True) rfl (fun _ hk => hk) trivial (zd) (Nat.le_trans (Nat.mul_le_mul_right _ (zd : (l0.length : Int).toNat ≤ 281474976710656)) (by omega)) (Below.refl _ _) (Nat.le_refl _) ?_; intro v368 w6 ho7 hb hg_ hnew_; clear hg_ hnew_; (first | rw [← Ny367.out] at ho7 | (simp only [Int.reduceToNat] at ho7; rw [← Ny367.out] at ho7)); replace HO366 := zS HO366 hb; have HO369 := A0_ (rL ho7 (bZ (zB_ HB))); replace HB := zB HB hb; clear hb ho7))
   go_loopg [3, 14] k (fun kq v3 v14 w' => ∃ (x3_1 : List (List Int)) (x4_1 : List Bool) (x14_1 : Int), v14 = .int .i64 x14_1 ∧ Aside0 (impl_cyclesOf.l0 kq l0 x3_1 x4_1 (l0.length : Int) x14_1 = some r) ∧ Aside0 (kq ≤ k) ∧ Aside0 (Kd.S (Kd.slice 3 (Kd.int .i64)) 23 w' w.heap.size (fun _ => True) v3 x3_1) ∧ Aside0 (Kd.R Kd.bool 4 w' w.heap.size (fun _ => True) v368 x4_1) ∧ Aside0 (Below w.heap.size w w'))
   case atStart => exact ⟨(y364), (y367), (0), zt, H', ⟨Nat.le_refl _⟩, ⟨zS_ HO366⟩, ⟨zR_ HO369⟩, ⟨zB_ HB⟩⟩
   case round =>
    clear H'; (try clear c2); (try clear c2b0); (try clear c2b1); (try clear p2); (try clear c3); (try clear c3b0); (try clear c3b1); (try clear c6); obtain ⟨x3_1, x4_1, x14_1, rfl, HA, HK1, HO_3, HO_4, HB⟩ := hrel
    cases gk with
    | zero => exact absurd HA.out (by simp [impl_cyclesOf.l0])
    | succ k1 =>
     have H := HA.out; clear HA; simp only [impl_cyclesOf.l0] at H
     by_cases c8 : x14_1 < (l0.length : Int)
     ·rw [if_pos c8] at H
      have c8b0 := dT c8; clear c8
      obtain ⟨y370, hy370⟩ : ∃ y_ : List Int, y_ = (([] : List Int)) := ⟨_, rfl⟩
      replace H : (impl_cyclesOf.l1 k1 l0 x3_1 x4_1 y370 x14_1 (l0.length : Int) x14_1) = some r := zH hy370 H
      have Ny370 := A0_ hy370; clear hy370; have H' := A0_ H; clear H
      go_wp2_with (first | ((with_reducible refine gD (N := 17) rfl ?_); refine Kd.R_lit (Kd.int .i64) _ 3 ?hg (N := 17) ?hd (xs := ([] : List Int)) (inner := []) (ok := fun _ => True) (okp := fun _ => True) ?hr ?hp (fun _ hk => hk) trivial (Below.refl _ _) (Nat.le_refl _) (by simp) ?_; (case hd => rfl); (case hg => rfl); (case hr => first | (go_simp; done) | (go_simp; rfl)); (case hp => exact (Reps.none _ _)); intro v371 w9 ho10 hb hg_ hnew_; clear hg_ hnew_; (first | rw [← Ny370.out] at ho10 | (simp only [Int.reduceToNat] at ho10; rw [← Ny370.out] at ho10)); replace HO_3 := A0_ (Kd.S_elder' (zS_ HO_3) (Kd.R_base ho10) hb); replace HO_4 := zR HO_4 hb; have HO372 := A0_ (rL ho10 (bZ (zB_ HB))); replace HB := zB HB hb; clear hb ho10))
      go_loopg [6, 7] k1 (fun kq v6 v7 w' => ∃ (x4_2 : List Bool) (x6_2 : List Int) (x7_2 : Int), v7 = .int .i64 x7_2 ∧ Aside0 (impl_cyclesOf.l1 kq l0 x3_1 x4_2 x6_2 x7_2 (l0.length : Int) x14_1 = some r) ∧ Aside0 (kq ≤ k1) ∧ Aside0 (Kd.S (Kd.slice 3 (Kd.int .i64)) 23 w' w.heap.size (fun k_ => some k_ ≠ (v6 : Value).ownBlock) u3 x3_1) ∧ Aside0 (Kd.R Kd.bool 4 w' w.heap.size (fun _ => True) v368 x4_2) ∧ Aside0 (Kd.R (Kd.int .i64) 3 w' w.heap.size (fun _ => True) v6 x6_2) ∧ Aside0 (Below w.heap.size w w'))
      case atStart => exact ⟨(x4_1), (y370), (x14_1), zt, H', ⟨Nat.le_refl _⟩, ⟨zmS HO_3 (fun _ hk => hk.2)⟩, ⟨zR_ HO_4⟩, ⟨zR_ HO372⟩, ⟨zB_ HB⟩⟩
      case round =>
       clear H'; (try clear c2); (try clear c2b0); (try clear c2b1); (try clear p2); (try clear c3); (try clear c3b0); (try clear c3b1); (try clear c6); (try clear c8); (try clear c8b0); (try clear p2); obtain ⟨x4_2, x6_2, x7_2, rfl, HA, HK2, HO_3, HO_4, HO_6, HB⟩ := hrel
       cases gk with
       | zero => exact absurd HA.out (by simp [impl_cyclesOf.l1])
       | succ k2 =>
        have H := HA.out; clear HA; simp only [impl_cyclesOf.l1] at H
        by_cases c11 : 0 ≤ x7_2
        ·rw [if_pos c11] at H
         have c11b0 := dT c11; clear c11
         by_cases c12 : x7_2 < (x4_2.length : Int)
         ·rw [if_pos c12] at H
          have c12b0 := dT c12; clear c12
          obtain ⟨bq13, hbq13⟩ : ∃ b_ : Bool, b_ = (rdOf false x4_2 x7_2) := ⟨_, rfl⟩
          replace H : (if bq13 = true then (if (x6_2.length : Int) > 0 then (if x3_1.length < 5864062014805 then (impl_cyclesOf.l0 k2 l0 (x3_1 ++ [x6_2]) x4_2 (l0.length : Int) (wrap64 (x14_1 + 1))) else (none)) else (impl_cyclesOf.l0 k2 l0 x3_1 x4_2 (l0.length : Int) (wrap64 (x14_1 + 1)))) else (if x6_2.length < 17592186044416 then (if x7_2 < (l0.length : Int) then (impl_cyclesOf.l1 k2 l0 x3_1 (x4_2.set (x7_2 : Int).toNat true) (x6_2 ++ [x7_2]) (rd l0 x7_2) (l0.length : Int) x14_1) else (none)) else (none))) = some r := by rw [← hbq13] at H; exact H
          have Nbq13 := A0_ hbq13; clear hbq13
          by_cases c14 : bq13 = true
          ·subst c14
           rw [if_pos rfl] at H
           by_cases c15 : (x6_2.length : Int) > 0
           ·rw [if_pos c15] at H
            have c15b0 : decide (0 < (x6_2.length : Int)) = true := dT c15
            have c15b1 : decide (0 < x6_2.length) = true := dT (by omega)
            clear c15
            by_cases c16 : x3_1.length < 5864062014805
            ·rw [if_pos c16] at H
             have LMc16 := A0_ c16; clear c16
             obtain ⟨y374, hy374⟩ : ∃ y_ : List (List Int), y_ = (x3_1 ++ [x6_2]) := ⟨_, rfl⟩
             replace H : (impl_cyclesOf.l0 k2 l0 y374 x4_2 (l0.length : Int) (wrap64 (x14_1 + 1))) = some r := zH hy374 H
             have Ny374 := A0_ hy374; clear hy374; have H' := A0_ H; clear H; obtain ⟨Ao17, co17, eo17⟩ := rS HO_4.out; subst eo17
             have p373 : 0 ≤ (x7_2 : Int) := zd
             have q373 : x7_2 < (x4_2.length : Int) := zd
             obtain ⟨ad373, e373, hx373_0⟩ := Kd.at_bool (rR HO_4.out).2.2 x7_2 p373 q373
             (try rw [← Nbq13.out] at hx373_0)
             cases e373
             replace p373 := eq_true p373; replace q373 := eq_true q373; obtain ⟨Ao18, co18, eo18⟩ := rS HO_6.out; subst eo18
             go_wp2_with (first | ((with_reducible refine gB (b := .append) (xs := #[.tmp 38, .tmp 40]) rfl ?_); at_builtin; refine Kd.S_append (Kd.slice 3 (Kd.int .i64)) (w0 := w) w.heap.size rfl (.tmp 38) (.tmp 40) 26 23 (.slice none 0 0) 24 rfl Try.underlying26 info23 rfl (by decide) (by omega) u3 x3_1 x6_2 [.slice Ao18 x6_2.length co18] (fun _ => True) (fun k_ => some k_ = (.slice Ao18 x6_2.length co18 : Value).ownBlock) rfl rfl ?aP (fun k_ hk_ => ((rM (ok' := fun k_ => ((fun _ => True)) k_ ∧ some k_ ≠ (u3 : Value).ownBlock) (Kd.R_apart' (HO_6.out) (Kd.S_typed HO_3.out) (by decide)) (fun k_ hk => ⟨trivial, hk.2⟩))).1 k_ hk_.symm) ?aF ?aO ?aB ?aS ?aL ?_; (case aP => exact Kd.M_row (rM (Kd.R_tight rfl (rM (ok' := fun k_ => ((fun _ => True)) k_ ∧ some k_ ≠ (u3 : Value).ownBlock) (Kd.R_apart' (HO_6.out) (Kd.S_typed HO_3.out) (by decide)) (fun k_ hk => ⟨trivial, hk.2⟩))) (fun _ h_ => h_))); (case aB => exact (zB_ HB)); (case aF => exact (fun _ _ => trivial)); (case aO => exact (zmS HO_3 (fun k_ hk => ⟨trivial, fun e_ => hk e_⟩))); (case aS => exact (bZ (zB_ HB))); (case aL => have := LMc16.out; omega); intro v375 w19 ho hb hg hat; rw [← Ny374.out] at ho; replace HO_4 := A0_ (Kd.R_over' (zR_ HO_4) (Kd.S_typed (zS_ HO_3)) (by decide) hg); replace HB := A0_ (hb); have HO376 := A0_ (ho); clear HO_3 HO_6 ho hb hg hat))
             go_roundg k2
             case measure => have := HK1.out; have := HK2.out; omega
             case rel => exact ⟨(y374), (x4_2), (wrap64 (x14_1 + 1)), zt, H', ⟨by have := HK1.out; have := HK2.out; omega⟩, ⟨zS_ HO376⟩, ⟨zR_ HO_4⟩, ⟨zB_ HB⟩⟩
            rw [if_neg c16] at H
            exact absurd H (by simp)
           rw [if_neg c15] at H
           have c15b0 : decide (0 < (x6_2.length : Int)) = false := dF c15
           have c15b1 : decide (0 < x6_2.length) = false := dF (by omega)
           clear c15; have H' := A0_ H; clear H; obtain ⟨Ao20, co20, eo20⟩ := rS HO_4.out; subst eo20
           have p373 : 0 ≤ (x7_2 : Int) := zd
           have q373 : x7_2 < (x4_2.length : Int) := zd
           obtain ⟨ad373, e373, hx373_0⟩ := Kd.at_bool (rR HO_4.out).2.2 x7_2 p373 q373
           (try rw [← Nbq13.out] at hx373_0)
           cases e373
           replace p373 := eq_true p373; replace q373 := eq_true q373; obtain ⟨Ao21, co21, eo21⟩ := rS HO_6.out; subst eo21
           go_wp2
           go_roundg k2
           case measure => have := HK1.out; have := HK2.out; omega
           case rel => exact ⟨(x3_1), (x4_2), (wrap64 (x14_1 + 1)), zt, H', ⟨by have := HK1.out; have := HK2.out; omega⟩, ⟨zmS HO_3 (fun _ hk => trivial)⟩, ⟨zR_ HO_4⟩, ⟨zB_ HB⟩⟩
          replace c14 := Bool.eq_false_iff.mpr c14; subst c14
          rw [if_neg (show ¬ (false = true) by decide)] at H
          obtain ⟨y377, hy377⟩ : ∃ y_ : List Bool, y_ = (x4_2.set (x7_2 : Int).toNat true) := ⟨_, rfl⟩
          replace H : (if x6_2.length < 17592186044416 then (if x7_2 < (l0.length : Int) then (impl_cyclesOf.l1 k2 l0 x3_1 y377 (x6_2 ++ [x7_2]) (rd l0 x7_2) (l0.length : Int) x14_1) else (none)) else (none)) = some r := zH hy377 H
          have Ny377 := A0_ hy377; clear hy377
          by_cases c23 : x6_2.length < 17592186044416
          ·rw [if_pos c23] at H
           have LMc23 := A0_ c23; clear c23
           obtain ⟨y378, hy378⟩ : ∃ y_ : List Int, y_ = (x6_2 ++ [x7_2]) := ⟨_, rfl⟩
           replace H : (if x7_2 < (l0.length : Int) then (impl_cyclesOf.l1 k2 l0 x3_1 y377 y378 (rd l0 x7_2) (l0.length : Int) x14_1) else (none)) = some r := zH hy378 H
           have Ny378 := A0_ hy378; clear hy378
           by_cases c24 : x7_2 < (l0.length : Int)
           ·rw [if_pos c24] at H
            have c24b0 := dT c24; clear c24; have H' := A0_ H; clear H; obtain ⟨Ao25, co25, eo25⟩ := rS HO_4.out; subst eo25
            have p373 : 0 ≤ (x7_2 : Int) := zd
            have q373 : x7_2 < (x4_2.length : Int) := zd
            obtain ⟨ad373, e373, hx373_0⟩ := Kd.at_bool (rR HO_4.out).2.2 x7_2 p373 q373
            (try rw [← Nbq13.out] at hx373_0)
            cases e373
            replace p373 := eq_true p373; replace q373 := eq_true q373
            have p22 : 0 ≤ (x7_2 : Int) := zd
            have q22 : (x7_2 : Int) < ((x4_2.length : Int) : Int) := zd
            obtain ⟨go22, co22, eo22, gb22, gl22, cl22, HG22⟩ := Kd.R_form HO_4.out (by omega)
            (first | cases eo22 | (injection eo22 with ea_ en_ ec_; (first | subst ea_ | (injection ea_ with ea_; subst ea_)); subst ec_; clear en_))
            have GB22 := A0_ gb22; have GG22 := A0_ HG22; clear gb22 gl22 HG22
            (first | simp only [add_plain] at hx373_0 | skip)
            obtain ⟨hx22_0, hf22_0⟩ := Kd.R_celln false HO_4.out (x7_2 : Int) p22 q22
            replace p22 := eq_true p22; replace q22 := eq_true q22
            have HP26 := Kd.R_putg HO_4.out (x7_2 : Int) true
            go_wp2_with (first | ((with_reducible refine gS (t := 4) (p := 30) rfl ?_); refine store_event (t := 4) (p := 30) (v := ?vo_w27) (w1 := (wr.setCell ⟨go22, (x7_2 : Int).toNat, none⟩ (.bool true))) ?hg ?ho ?hn ?hr ?_; (case ho => rfl); (case hg => rfl); (case hn => rfl); (case hr => first | (go_simp; done) | (go_simp; rfl)); intro w27 hw; have hg : wr.grownBy w27 (some go22) := (by rw [hw]; exact HP26.2); have hp_ : Kd.R Kd.bool 4 w27 w.heap.size (fun _ => True) (.slice (some ⟨go22, 0, none⟩) x4_2.length co25) y377 := (by rw [hw, Ny377.out]; exact HP26.1); clear HP26; replace HO_3 := A0_ (Kd.S_over' (v := (.slice (some ⟨go22, 0, none⟩) x4_2.length co25)) (zS_ HO_3) (Kd.R_typed HO_4.out) (by decide) hg); replace HO_6 := A0_ (Kd.R_over' (v := (.slice (some ⟨go22, 0, none⟩) x4_2.length co25)) (zR_ HO_6) (Kd.R_typed HO_4.out) (by decide) hg); replace HO_4 := A0_ (hp_); replace HB := A0_ ((by rw [hw]; exact bS (HB.out) GB22.out : Below w.heap.size w w27)); clear hg hw hp_) | ((with_reducible refine gB (b := .append) (xs := #[.tmp 31, .tmp 33]) rfl ?_); at_builtin; refine Kd.R_append (Kd.int .i64) (w0 := w) w.heap.size rfl (.tmp 31) (.tmp 33) 23 3 (.int .i64 0) 8 rfl Try.underlying23 info3 rfl (by decide) (by omega) u6 x6_2 x7_2 [.int .i64 x7_2] (fun _ => True) (fun _ => False) rfl rfl ?aP (fun _ hk => hk.elim) ?aF ?aO ?aB ?aS ?aL ?_; (case aP => exact rfl); (case aB => exact (zB_ HB)); (case aF => exact (fun _ _ => trivial)); (case aO => exact (zR_ HO_6)); (case aS => exact (bZ (zB_ HB))); (case aL => have := LMc23.out; omega); intro v379 w28 ho hb hg hat; rw [← Ny378.out] at ho; replace HO_3 := A0_ (Kd.S_after (ok := (fun _ => True)) (zmS HO_3 (fun _ hk => ⟨trivial, hk⟩)) hg hat); replace HO_4 := A0_ (Kd.R_over' (zR_ HO_4) (Kd.R_typed (zR_ HO_6)) (by decide) hg); replace HB := A0_ (hb); have HO380 := A0_ (ho); clear HO_6 ho hb hg hat; have p381 : 0 ≤ (x7_2 : Int) := zd; have q381 : x7_2 < (l0.length : Int) := zd; obtain ⟨ad381, e381, hx381_0⟩ := tI HR0.out x7_2 p381 q381; cases e381; try replace hx381_0 := (HB.out.cell (wL w _ hx381_0)).trans hx381_0; replace p381 := eq_true p381; replace q381 := eq_true q381))
            go_roundg k2
            case measure => have := HK1.out; have := HK2.out; omega
            case rel => exact ⟨(y377), (y378), (rd l0 x7_2), zt, H', ⟨by have := HK1.out; have := HK2.out; omega⟩, ⟨zmS HO_3 (fun _ hk => hk.2)⟩, ⟨zR_ HO_4⟩, ⟨zR_ HO380⟩, ⟨zB_ HB⟩⟩
           rw [if_neg c24] at H
           exact absurd H (by simp)
          rw [if_neg c23] at H
          exact absurd H (by simp)
         rw [if_neg c12] at H
         exact absurd H (by simp)
        rw [if_neg c11] at H
        exact absurd H (by simp)
     rw [if_neg c8] at H; have c8b0 := dF c8; clear c8; obtain rfl := sI H
     go_wp2
     go_ret
     exact ⟨_, by first | rfl | (simp [*] <;> rfl), zS_ HO_3, zB_ HB⟩
  rw [if_neg c3] at H
  exact absurd H (by simp)
 rw [if_neg c2] at H
 exact absurd H (by simp)

/-! ### impl_mul: function 69 -/
def impl_mul.l0 : Nat → List Int → List Int → List Int → Int → Int → Option (List Int)
  | 0, _, _, _, _, _ => none
  | k + 1, x1, x5, x11, x12, x13 => if x13 < x12 then (if 0 ≤ x13 then (if x13 < (x11.length : Int) then (if 0 ≤ (rd x11 x13) then (if (rd x11 x13) < (x1.length : Int) then (if x13 < (x5.length : Int) then (impl_mul.l0 k x1 (x5.set (x13 : Int).toNat (rd x1 (rd x11 x13))) x11 x12 (wrap64 (x13 + 1))) else (none)) else (none)) else (none)) else (none)) else (none)) else (some x5)
def impl_mul.f (k : Nat) (l0 : List Int) (l1 : List Int) : Option (List Int) := if 0 ≤ (l0.length : Int) then (if ((l0.length : Int) : Int).toNat ≤ 35184372088832 then (impl_mul.l0 k l1 (List.replicate ((l0.length : Int) : Int).toNat 0) l0 (l0.length : Int) 0) else (none)) else (none)
set_option maxHeartbeats 8000000 in
set_option maxRecDepth 100000 in
theorem impl_mul.calls (k : Nat) (A0 : Option Addr) (c0 : Nat) (l0 : List Int) (A1 : Option Addr) (c1 : Nat) (l1 : List Int) (r : List Int) (w : World) (hr0 : Kd.C (Kd.int .i64) w A0 l0.length l0) (hc0 : l0.length ≤ c0) (hr1 : Kd.C (Kd.int .i64) w A1 l1.length l1) (hc1 : l1.length ≤ c1) (h : impl_mul.f k l0 l1 = some r) :
    Calls Try.prog 69 #[.slice A0 l0.length c0, .slice A1 l1.length c1] w fun e w' => ∃ v0_ : Value, e = .returned (v0_) ∧ Kd.R (Kd.int .i64) 3 w' w.heap.size (fun _ => True) v0_ r ∧ Below w.heap.size w w' := by
 have HR0 := A0_ hr0; have HC0 := A0_ hc0; clear hr0 hc0; have HR1 := A0_ hr1; have HC1 := A0_ hc1; clear hr1 hc1
 have HB := A0_ (Below.refl w.heap.size w)
 have H : (if 0 ≤ (l0.length : Int) then (if ((l0.length : Int) : Int).toNat ≤ 35184372088832 then (impl_mul.l0 k l1 (List.replicate ((l0.length : Int) : Int).toNat 0) l0 (l0.length : Int) 0) else (none)) else (none)) = some r := h
 clear h
 by_cases c3 : 0 ≤ (l0.length : Int)
 ·rw [if_pos c3] at H
  have c3b0 := eq_true c3; have c3b1 := dT c3; clear c3
  by_cases c4 : ((l0.length : Int) : Int).toNat ≤ 35184372088832
  ·rw [if_pos c4] at H
   have c4b0 := eq_true c4; have c4b1 := dT c4; clear c4
   obtain ⟨y382, hy382⟩ : ∃ y_ : List Int, y_ = (List.replicate ((l0.length : Int) : Int).toNat 0) := ⟨_, rfl⟩
   replace H : (impl_mul.l0 k l1 y382 l0 (l0.length : Int) 0) = some r := zH hy382 H
   have Ny382 := A0_ hy382; clear hy382; have H' := A0_ H; clear H
   go_enter Try.func69, Try.ntmps69
   go_wp2_with (first | ((with_reducible refine gD (N := 10) rfl ?_); refine Kd.R_make (Kd.int .i64) _ 3 rfl (N := 10) rfl 23 _ _ rfl (l0.length : Int) rfl rfl Try.underlying23 (.int .i64 0) 8 info3 rfl (by decide) (by omega) 0 (ok := fun _ => True) (okp := fun _ => True) rfl (fun _ hk => hk) trivial (zd) (Nat.le_trans (Nat.mul_le_mul_right _ (zd : (l0.length : Int).toNat ≤ 35184372088832)) (by omega)) (Below.refl _ _) (Nat.le_refl _) ?_; intro v383 w5 ho6 hb hg_ hnew_; clear hg_ hnew_; (first | rw [← Ny382.out] at ho6 | (simp only [Int.reduceToNat] at ho6; rw [← Ny382.out] at ho6)); have HO384 := A0_ (rL ho6 (bZ (zB_ HB))); replace HB := zB HB hb; clear hb ho6))
   go_loopg [13] k (fun kq v13 w' => ∃ (x5_1 : List Int) (x13_1 : Int), v13 = .int .i64 x13_1 ∧ Aside0 (impl_mul.l0 kq l1 x5_1 l0 (l0.length : Int) x13_1 = some r) ∧ Aside0 (kq ≤ k) ∧ Aside0 (Kd.R (Kd.int .i64) 3 w' w.heap.size (fun _ => True) v383 x5_1) ∧ Aside0 (Below w.heap.size w w'))
   case atStart => exact ⟨(y382), (0), zt, H', ⟨Nat.le_refl _⟩, ⟨zR_ HO384⟩, ⟨zB_ HB⟩⟩
   case round =>
    clear H'; (try clear c1); (try clear p2); (try clear c3); (try clear c3b0); (try clear c3b1); (try clear c4); (try clear c4b0); (try clear c4b1); (try clear c6); obtain ⟨x5_1, x13_1, rfl, HA, HK1, HO_5, HB⟩ := hrel
    cases gk with
    | zero => exact absurd HA.out (by simp [impl_mul.l0])
    | succ k1 =>
     have H := HA.out; clear HA; simp only [impl_mul.l0] at H
     by_cases c7 : x13_1 < (l0.length : Int)
     ·rw [if_pos c7] at H
      have c7b0 := dT c7; clear c7
      by_cases c8 : 0 ≤ x13_1
      ·rw [if_pos c8] at H
       have c8b0 := dT c8; clear c8
       by_cases c9 : x13_1 < (l0.length : Int)
       ·rw [if_pos c9] at H
        have c9b0 := dT c9; clear c9
        by_cases c10 : 0 ≤ (rd l0 x13_1)
        ·rw [if_pos c10] at H
         have c10b0 := dT c10; clear c10
         by_cases c11 : (rd l0 x13_1) < (l1.length : Int)
         ·rw [if_pos c11] at H
          have c11b0 := dT c11; clear c11
          by_cases c12 : x13_1 < (x5_1.length : Int)
          ·rw [if_pos c12] at H
           have c12b0 := dT c12; clear c12
           obtain ⟨y387, hy387⟩ : ∃ y_ : List Int, y_ = (x5_1.set (x13_1 : Int).toNat (rd l1 (rd l0 x13_1))) := ⟨_, rfl⟩
           replace H : (impl_mul.l0 k1 l1 y387 l0 (l0.length : Int) (wrap64 (x13_1 + 1))) = some r := zH hy387 H
           have Ny387 := A0_ hy387; clear hy387; have H' := A0_ H; clear H
           have p385 : 0 ≤ (x13_1 : Int) := zd
           have q385 : x13_1 < (l0.length : Int) := zd
           obtain ⟨ad385, e385, hx385_0⟩ := tI HR0.out x13_1 p385 q385
           cases e385
           try replace hx385_0 := (HB.out.cell (wL w _ hx385_0)).trans hx385_0
           replace p385 := eq_true p385; replace q385 := eq_true q385
           have p386 : 0 ≤ ((rd l0 x13_1) : Int) := zd
           have q386 : (rd l0 x13_1) < (l1.length : Int) := zd
           obtain ⟨ad386, e386, hx386_0⟩ := tI HR1.out (rd l0 x13_1) p386 q386
           cases e386
           try replace hx386_0 := (HB.out.cell (wL w _ hx386_0)).trans hx386_0
           replace p386 := eq_true p386; replace q386 := eq_true q386
           have p13 : 0 ≤ (x13_1 : Int) := zd
           have q13 : (x13_1 : Int) < ((x5_1.length : Int) : Int) := zd
           obtain ⟨go13, co13, eo13, gb13, gl13, cl13, HG13⟩ := Kd.R_form HO_5.out (by omega)
           (first | cases eo13 | (injection eo13 with ea_ en_ ec_; (first | subst ea_ | (injection ea_ with ea_; subst ea_)); subst ec_; clear en_))
           have GB13 := A0_ gb13; have GG13 := A0_ HG13; clear gb13 gl13 HG13
           obtain ⟨hx13_0, hf13_0⟩ := Kd.R_celln 0 HO_5.out (x13_1 : Int) p13 q13
           replace p13 := eq_true p13; replace q13 := eq_true q13
           have HP14 := Kd.R_putg HO_5.out (x13_1 : Int) (rd l1 (rd l0 x13_1))
           go_wp2_with (first | ((with_reducible refine gS (t := 3) (p := 24) rfl ?_); refine store_event (t := 3) (p := 24) (v := ?vo_w15) (w1 := (wr.setCell ⟨go13, (x13_1 : Int).toNat, none⟩ (.int .i64 (rd l1 (rd l0 x13_1))))) ?hg ?ho ?hn ?hr ?_; (case ho => rfl); (case hg => rfl); (case hn => rfl); (case hr => first | (go_simp; done) | (go_simp; rfl)); intro w15 hw; have hg : wr.grownBy w15 (some go13) := (by rw [hw]; exact HP14.2); have hp_ : Kd.R (Kd.int .i64) 3 w15 w.heap.size (fun _ => True) (.slice (some ⟨go13, 0, none⟩) x5_1.length co13) y387 := (by rw [hw, Ny387.out]; exact HP14.1); clear HP14; replace HO_5 := A0_ (hp_); replace HB := A0_ ((by rw [hw]; exact bS (HB.out) GB13.out : Below w.heap.size w w15)); clear hg hw hp_))
           go_roundg k1
           case measure => have := HK1.out; omega
           case rel => exact ⟨(y387), (wrap64 (x13_1 + 1)), zt, H', ⟨by have := HK1.out; omega⟩, ⟨zR_ HO_5⟩, ⟨zB_ HB⟩⟩
          rw [if_neg c12] at H
          exact absurd H (by simp)
         rw [if_neg c11] at H
         exact absurd H (by simp)
        rw [if_neg c10] at H
        exact absurd H (by simp)
       rw [if_neg c9] at H
       exact absurd H (by simp)
      rw [if_neg c8] at H
      exact absurd H (by simp)
     rw [if_neg c7] at H; have c7b0 := dF c7; clear c7; obtain rfl := sI H
     go_wp2
     go_ret
     exact ⟨_, by first | rfl | (simp [*] <;> rfl), zR_ HO_5, zB_ HB⟩
  rw [if_neg c4] at H
  exact absurd H (by simp)
 rw [if_neg c3] at H
 exact absurd H (by simp)

/-! ### impl_winding: function 70 -/
def impl_winding.l0 : Nat → List (List Int) → List Int → List Int → Int → Int → List Int → List Int → Option (List Int)
  | 0, _, _, _, _, _, _, _ => none
  | k + 1, x2, x9, x14, x15, x16, x389000, x389001 => if x16 < x15 then (if 0 ≤ x16 then (if x16 < (x14.length : Int) then ((impl_along.f k x389000 x389001 x2 (rd x14 x16)).bind fun t393 => ((impl_mul.f k x9 t393).bind fun t396 => (impl_winding.l0 k x2 t396 x14 x15 (wrap64 (x16 + 1)) x389000 x389001))) else (none)) else (none)) else (some x9)
def impl_winding.f (k : Nat) (l0_0 : List Int) (l0_1 : List Int) (a1 : Int) (l2 : List (List Int)) (l3 : List Int) : Option (List Int) := (impl_still.f k a1).bind fun t389 => (impl_winding.l0 k l2 t389 l3 (l3.length : Int) 0 l0_0 l0_1)
set_option maxHeartbeats 8000000 in
set_option maxRecDepth 100000 in
theorem impl_winding.calls (k : Nat) (A0_0 : Option Addr) (c0_0 : Nat) (l0_0 : List Int) (A0_1 : Option Addr) (c0_1 : Nat) (l0_1 : List Int) (a1 : Int) (A2 : Option Addr) (c2 : Nat) (l2 : List (List Int)) (A3 : Option Addr) (c3 : Nat) (l3 : List Int) (r : List Int) (w : World) (hr0_0 : Kd.C (Kd.int .i64) w A0_0 l0_0.length l0_0) (hc0_0 : l0_0.length ≤ c0_0) (hr0_1 : Kd.C (Kd.int .i64) w A0_1 l0_1.length l0_1) (hc0_1 : l0_1.length ≤ c0_1) (hr2 : Kd.C (Kd.slice 3 (Kd.int .i64)) w A2 l2.length l2) (hc2 : l2.length ≤ c2) (hr3 : Kd.C (Kd.int .i64) w A3 l3.length l3) (hc3 : l3.length ≤ c3) (h : impl_winding.f k l0_0 l0_1 a1 l2 l3 = some r) :
    Calls Try.prog 70 #[.agg #[.slice A0_0 l0_0.length c0_0, .slice A0_1 l0_1.length c0_1], .int .i64 a1, .slice A2 l2.length c2, .slice A3 l3.length c3] w fun e w' => ∃ v0_ : Value, e = .returned (v0_) ∧ Kd.R (Kd.int .i64) 3 w' w.heap.size (fun _ => True) v0_ r ∧ Below w.heap.size w w' := by
 have hu25 := Try.underlying25; have HR0_0 := A0_ hr0_0; have HC0_0 := A0_ hc0_0; clear hr0_0 hc0_0; have HR0_1 := A0_ hr0_1; have HC0_1 := A0_ hc0_1; clear hr0_1 hc0_1; have HR2 := A0_ hr2; have HC2 := A0_ hc2; clear hr2 hc2; have HR3 := A0_ hr3; have HC3 := A0_ hc3; clear hr3 hc3
 have HB := A0_ (Below.refl w.heap.size w)
 have H : ((impl_still.f k a1).bind fun t389 => (impl_winding.l0 k l2 t389 l3 (l3.length : Int) 0 l0_0 l0_1)) = some r := h
 clear h; obtain ⟨t389, A5, H⟩ := zbind H; have H' := A0_ H; clear H
 go_enter Try.func70, Try.ntmps70
 go_wp2_with (first | ((with_reducible refine gD (N := 4) rfl ?_); refine zX (N := 4) (cs := #[.slice A0_0 l0_0.length c0_0, .slice A0_1 l0_1.length c0_1]) (t := 25) ?_; intro gb388 hg w6 hbox hb; have BK388 := A0_ (hbox); have GW388 := zG hg HB; have GE388 := zG hg HB; replace HB := zB HB hb; clear hb hbox hg) | ((with_reducible refine gC (f := 65) rfl ?_); refine zJ (some 13) Try.func65 #[.int .i64 a1] ?_; (with_reducible refine (impl_still.calls k a1 t389 _ A5.out).mono ?_); rintro e w7 ⟨v390, rfl, ho0, hb⟩; refine ⟨_, rfl, ?_⟩; have HO391 := A0_ (rL ho0 (bZ (zB_ HB))); replace BK388 := zK BK388 hb; replace HB := zB HB hb; (try clear hb); (try clear ho0)))
 go_loopg [9, 16] k (fun kq v9 v16 w' => ∃ (x9_1 : List Int) (x16_1 : Int), v16 = .int .i64 x16_1 ∧ Aside0 (impl_winding.l0 kq l2 x9_1 l3 (l3.length : Int) x16_1 l0_0 l0_1 = some r) ∧ Aside0 (kq ≤ k) ∧ Aside0 (Kd.R (Kd.int .i64) 3 w' w.heap.size (fun _ => True) v9 x9_1) ∧ Aside0 (w'.heap[gb388]? = some (.cells #[(.slice A0_0 l0_0.length c0_0), (.slice A0_1 l0_1.length c0_1)] 25 (0, 0))) ∧ Aside0 (Below w.heap.size w w'))
 case atStart => exact ⟨(t389), (0), zt, H', ⟨Nat.le_refl _⟩, ⟨zR_ HO391⟩, ⟨zK_ BK388⟩, ⟨zB_ HB⟩⟩
 case round =>
  clear H'; (try clear c2); (try clear p2); (try clear c3); (try clear c6); (try clear c7); obtain ⟨x9_1, x16_1, rfl, HA, HK1, HO_9, BK388, HB⟩ := hrel
  cases gk with
  | zero => exact absurd HA.out (by simp [impl_winding.l0])
  | succ k1 =>
   have H := HA.out; clear HA; simp only [impl_winding.l0] at H
   by_cases c8 : x16_1 < (l3.length : Int)
   ·rw [if_pos c8] at H
    have c8b0 := dT c8; clear c8
    by_cases c9 : 0 ≤ x16_1
    ·rw [if_pos c9] at H
     have c9b0 := dT c9; clear c9
     by_cases c10 : x16_1 < (l3.length : Int)
     ·rw [if_pos c10] at H
      have c10b0 := dT c10; clear c10; obtain ⟨t393, A11, H⟩ := zbind H; obtain ⟨t396, A12, H⟩ := zbind H; have H' := A0_ H; clear H
      have p392 : 0 ≤ (x16_1 : Int) := zd
      have q392 : x16_1 < (l3.length : Int) := zd
      obtain ⟨ad392, e392, hx392_0⟩ := tI HR3.out x16_1 p392 q392
      cases e392
      try replace hx392_0 := (HB.out.cell (wL w _ hx392_0)).trans hx392_0
      replace p392 := eq_true p392; replace q392 := eq_true q392; have hcz13_0 := zc0 BK388; have hcz13_1 := zc1 BK388; have hfz13_0 := kF BK388.out 0; have hfz13_1 := kF BK388.out 1
      go_wp2_with (first | ((with_reducible refine gC (f := 62) rfl ?_); refine zJ (some 24) Try.func62 #[.agg #[.slice A0_0 l0_0.length c0_0, .slice A0_1 l0_1.length c0_1], .slice A2 l2.length c2, .int .i64 (rd l3 x16_1)] ?_; (with_reducible refine (impl_along.calls k1 _ _ l0_0 _ _ l0_1 (fun k_ => k_ < w.heap.size) _ _ l2 (rd l3 x16_1) t393 _ ?side1 ?side2 ?side3 ?side4 ?side5 A11.out).mono ?_); (case side1 => exact zC HR0_0 HB); (case side2 => exact HC0_0.out); (case side3 => exact zC HR0_1 HB); (case side4 => exact HC0_1.out); (case side5 => exact Kd.V_mk HC2.out (Kd.F_below (Kd.C_F (Kd.heap_slice 3 (Kd.heap_int .i64)) HR2.out) (zB_ HB))); rintro e w14 ⟨v394, rfl, ho0, hb⟩; refine ⟨_, rfl, ?_⟩; have HO395 := A0_ (Kd.V_lower (Kd.V_mono (ok' := fun k_ => some k_ ≠ (u9 : Value).ownBlock ∧ k_ ≠ gb388) ho0 (fun k_ hk_ => ⟨Or.elim hk_ (fun hs_ => fun e_ => Nat.not_le.2 hs_ (Kd.R_base HO_9.out k_ e_.symm)) (fun hn_ => (Kd.fresh' (rX (zR_ HO_9)) k_ hn_)), Or.elim hk_ (fun hs_ => fun e_ => Nat.not_le.2 hs_ (by rw [e_]; exact GW388.out)) (fun hn_ => (Kd.freshB (g := gb388) (o := .cells #[.slice A0_0 l0_0.length c0_0, .slice A0_1 l0_1.length c0_1] 25 (0, 0)) (zK_ BK388) k_ hn_))⟩)) (bZ (zB_ HB))); replace HO_9 := zR HO_9 hb; replace BK388 := zK BK388 hb; replace HB := zB HB hb; (try clear hb); (try clear ho0); obtain ⟨Ao15, co15, eo15⟩ := rS HO_9.out; subst eo15; obtain ⟨Ao16, co16, eo16⟩ := Kd.V_slice HO395.out; subst eo16) | ((with_reducible refine gC (f := 69) rfl ?_); refine zJ (some 25) Try.func69 #[.slice Ao15 x9_1.length co15, .slice Ao16 t393.length co16] ?_; (with_reducible refine (impl_mul.calls k1 _ _ x9_1 _ _ t393 t396 _ ?side1 ?side2 ?side3 ?side4 A12.out).mono ?_); (case side1 => exact zD HO_9); (case side2 => exact (rR HO_9.out).2.1); (case side3 => repeat (first | exact (Kd.V_reads' HO395.out).2.2 | (with_reducible refine cA ?_ _) | (with_reducible refine cN ?_ _) | (with_reducible refine cD ?_))); (case side4 => exact (Kd.V_reads' HO395.out).2.1); rintro e w17 ⟨v397, rfl, ho0, hb⟩; refine ⟨_, rfl, ?_⟩; replace HO395 := A0_ (Kd.V_elder' (by (with_reducible repeat (first | apply Kd.V_alloc | apply Kd.V_drewN | apply Kd.V_drew)); exact HO395.out) (Kd.R_base ho0) hb); have HO398 := A0_ (rL (Kd.R_new' ho0 (rX (zR_ HO_9))) (bZ (zB_ HB))); replace HO_9 := A0_ (Kd.R_elder' (zR_ HO_9) (Kd.R_base ho0) hb); replace BK388 := zK BK388 hb; replace HB := zB HB hb; (try clear hb); (try clear ho0)))
      go_roundg k1
      case measure => have := HK1.out; omega
      case rel => exact ⟨(t396), (wrap64 (x16_1 + 1)), zt, H', ⟨by have := HK1.out; omega⟩, ⟨zmR HO398 (fun _ hk => trivial)⟩, ⟨zK_ BK388⟩, ⟨zB_ HB⟩⟩
     rw [if_neg c10] at H
     exact absurd H (by simp)
    rw [if_neg c9] at H
    exact absurd H (by simp)
   rw [if_neg c8] at H; have c8b0 := dF c8; clear c8; obtain rfl := sI H
   go_wp2
   go_ret
   exact ⟨_, by first | rfl | (simp [*] <;> rfl), zR_ HO_9, zB_ HB⟩

end Go.Proofs.Ytmegggomhjgehaa.PFnWinding
