-- Made by a program of this session (wip/tools) out of the loaded program; not trusted: Lean checks it.
import Derived.Test.YtlckmmnpcljhoaaPFnShiftx0
import Derived.Test.YtlckmmnpcljhoaaPFnShiftx1
import Derived.Test.YtlckmmnpcljhoaaPFnShiftx4
-- packed
namespace Go.Proofs.Ytlckmmnpcljhoaa.PFnShift
open Go.RowKit Go.Proofs.YtlckmmnpcljhoaaW.PrintWords Go.Proofs.YtlckmmnpcljhoaaW.PrintLast Go.Proofs.YtlckmmnpcljhoaaW.PrintMore
attribute [local go_sem] max2_int min2_int max_two min_two max_three min_three max_four min_four   -- for this text's walks alone
set_option linter.unusedVariables false
set_option linter.unusedSimpArgs false

/-! ### spec_DrawCoverShift: function 5 -/
def spec_DrawCoverShift.j0 : Nat → Int → List (List Int) → Bool → List Int → Int → List Int → List Int → Option (List Int × List Int × Int × (List (List Int)) × List Int)
  | 0, _, _, _, _, _, _, _ => none
  | k + 1, x8, x9, x24, x242000, x242001, x254000, x254001 => if x24 = true then ((spec_l1Same.f k x8).bind fun t256 => (some (x254000, x254001, x8, x9, t256))) else ((spec_l91Perm.f k x242000 x242001 (mx 1 x8)).bind fun bt259 => (some (x254000, x254001, x8, x9, bt259.1)))
def spec_DrawCoverShift.f (k : Nat) (l0 : List Int) : Option (List Int × List Int × Int × (List (List Int)) × List Int) := (spec_l6Open.f l0).bind fun bt239 => ((spec_l92Cover.f k bt239.1 bt239.2).bind fun bt242 => (if bt242.2.2.1 > 0 then ((spec_l6Rd_pick.f k bt239.1 bt242.2.2.2.2 3).bind fun bt254 => (spec_DrawCoverShift.j0 k bt242.2.2.1 bt242.2.2.2.1 (bt254.1 == 0) bt239.1 bt254.2 bt242.1 bt242.2.1)) else (spec_DrawCoverShift.j0 k bt242.2.2.1 bt242.2.2.2.1 false bt239.1 bt242.2.2.2.2 bt242.1 bt242.2.1)))
def spec_DrawCoverShift.T4 : Bool × List (List Nat × List Nat) := (true, [([], []), ([], []), ([], []), ([], []), ([3], [3]), ([0, 4, 0], [0]), ([1, 5, 0, 1, 5], [1]), ([2, 6, 0, 1, 2, 5, 6], [2]), ([4, 7, 0, 1, 2, 3, 4, 5, 6, 7], [4])])
def spec_DrawCoverShift.B4 : List Nat := [0, 0, 0, 0, 8, 25, 59, 127, 255]
theorem spec_DrawCoverShift.tab4 : rtab .any (opsOf Try.f5 4) = spec_DrawCoverShift.T4 := by kernel_rfl
theorem spec_DrawCoverShift.bits4 : waitsOk spec_DrawCoverShift.T4.2 spec_DrawCoverShift.B4 = true := by kernel_rfl
def spec_DrawCoverShift.T5 : Bool × List (List Nat × List Nat) := (true, [([], []), ([], []), ([], []), ([], []), ([], []), ([4], [4]), ([3, 5], [3, 5]), ([0, 6, 0], [0]), ([1, 7, 0, 1, 7], [1]), ([2, 8, 0, 1, 2, 7, 8], [2]), ([6, 9, 0, 1, 2, 3, 4, 5, 6, 7, 8, 9], [6])])
def spec_DrawCoverShift.B5 : List Nat := [0, 0, 0, 0, 0, 16, 56, 121, 251, 511, 1023]
theorem spec_DrawCoverShift.tab5 : rtab .any (opsOf Try.f5 5) = spec_DrawCoverShift.T5 := by kernel_rfl
theorem spec_DrawCoverShift.bits5 : waitsOk spec_DrawCoverShift.T5.2 spec_DrawCoverShift.B5 = true := by kernel_rfl
set_option maxHeartbeats 8000000 in
set_option maxRecDepth 100000 in
theorem spec_DrawCoverShift.calls (k : Nat) (A0 : Option Addr) (c0 : Nat) (l0 : List Int) (r1 : List Int) (r2 : List Int) (r3 : Int) (r4 : List (List Int)) (r5 : List Int) (w : World) (hr0 : Kd.C (Kd.int .u8) w A0 l0.length l0) (hc0 : l0.length ≤ c0) (h : spec_DrawCoverShift.f k l0 = some (r1, r2, r3, r4, r5)) :
    Calls Try.prog 5 #[.slice A0 l0.length c0] w fun e w' => ∃ v0_ v1_ v3_ v4_ : Value, e = .returned (.tuple #[.agg #[v0_, v1_], .int .i64 r3, v3_, v4_]) ∧ Kd.Q (Kd.int .i64) 3 w' w.heap.size (fun k_ => some k_ ≠ (v1_ : Value).ownBlock ∧ some k_ ≠ (v4_ : Value).ownBlock) v0_ r1 ∧ Kd.R (Kd.int .i64) 3 w' w.heap.size (fun k_ => some k_ ≠ (v0_ : Value).ownBlock ∧ some k_ ≠ (v4_ : Value).ownBlock) v1_ r2 ∧ Kd.S (Kd.slice 3 (Kd.int .i64)) 23 w' w.heap.size (fun k_ => some k_ ≠ (v0_ : Value).ownBlock ∧ some k_ ≠ (v1_ : Value).ownBlock ∧ some k_ ≠ (v4_ : Value).ownBlock) v3_ r4 ∧ Kd.R (Kd.int .i64) 3 w' w.heap.size (fun k_ => some k_ ≠ (v0_ : Value).ownBlock ∧ some k_ ≠ (v1_ : Value).ownBlock) v4_ r5 ∧ Below w.heap.size w w' := by
 have hu25 := Try.underlying25; have HR0 := A0_ hr0; have HC0 := A0_ hc0; clear hr0 hc0
 have HB := A0_ (Below.refl w.heap.size w)
 have H : ((spec_l6Open.f l0).bind fun bt239 => ((spec_l92Cover.f k bt239.1 bt239.2).bind fun bt242 => (if bt242.2.2.1 > 0 then ((spec_l6Rd_pick.f k bt239.1 bt242.2.2.2.2 3).bind fun bt254 => (spec_DrawCoverShift.j0 k bt242.2.2.1 bt242.2.2.2.1 (bt254.1 == 0) bt239.1 bt254.2 bt242.1 bt242.2.1)) else (spec_DrawCoverShift.j0 k bt242.2.2.1 bt242.2.2.2.1 false bt239.1 bt242.2.2.2.2 bt242.1 bt242.2.1)))) = some (r1, r2, r3, r4, r5) := h
 clear h; obtain ⟨⟨t239, t240⟩, A2, H⟩ := zbind H; dsimp only at H; obtain ⟨⟨t242, t245, t248, t249, t252⟩, A3, H⟩ := zbind H; dsimp only at H; have HC4 := A0_ H; clear H
 go_enter Try.func5, Try.ntmps5
 go_upto_region 3 with (first | ((with_reducible refine gD (N := 2) rfl ?_); refine box_event ?hg (N := 2) ?hd (cs := #[.slice none 0 0, .slice none 0 0]) (t := 25) ?hr ?_; (case hd => rfl); (case hg => rfl); (case hr => first | (go_simp; done) | (go_simp; rfl)); intro gb238 hg w5 hbox hb; have BK238 := A0_ (hbox); have GW238 := zG hg HB; have GE238 := zG hg HB; replace HB := zB HB hb; clear hb hbox hg) | ((with_reducible refine gC (f := 20) rfl ?_); refine goesL_ (some 11) rfl rfl Try.func20 (by kernel_rfl) rfl #[.slice A0 l0.length c0] rfl (by (try simp only [List.map_toArray, List.map_cons, List.map_nil]); first | done | rfl) ?_; (with_reducible refine (spec_l6Open.calls _ _ l0 t239 t240 w _ ?side1 ?side2 ?side3 A2.out).mono ?_); (case side1 => repeat (first | (with_reducible first | exact HB.out | apply bA | apply bN | apply bD | refine bS ?_ GE238.out) | exact HB.out)); (case side2 => exact HR0.out); (case side3 => exact HC0.out); rintro e w6 ⟨g241, rfl, hi, hb, hb2⟩; refine ⟨_, rfl, ?_⟩; replace HB := A0_ (hb); have HI241 := A0_ (hi); have NB241_238 := A0_ (IsS61.ne_blk hi (kB (g := gb238) (o := .cells #[.slice none 0 0, .slice none 0 0] 25 (0, 0)) (zK_ BK238) hb2) (by decide)); have NB238_241 := A0_ (Ne.symm (IsS61.ne_blk hi (kB (g := gb238) (o := .cells #[.slice none 0 0, .slice none 0 0] 25 (0, 0)) (zK_ BK238) hb2) (by decide))); replace BK238 := A0_ (kB (g := gb238) (o := .cells #[.slice none 0 0, .slice none 0 0] 25 (0, 0)) (zK_ BK238) hb2); (try clear hb)) | ((with_reducible refine gC (f := 21) rfl ?_); refine goesL_ (some 14) rfl rfl Try.func21 (by kernel_rfl) rfl #[.pointer (some ⟨g241, 0, none⟩)] rfl (by (try simp only [List.map_toArray, List.map_cons, List.map_nil]); first | done | rfl) ?_; (with_reducible refine (spec_l92Cover.calls k g241 t239 t240 t242 t245 t248 t249 t252 w _ ?side1 ?side2 A3.out).mono ?_); (case side1 => repeat (first | (with_reducible first | exact HI241.out | apply IsS61.alloc | apply IsS61.drewN | apply IsS61.drew | apply IsS61.set_1 | refine IsS61.far ?_ NB241_238.out _) | exact HI241.out)); (case side2 => repeat (first | (with_reducible first | exact HB.out | apply bA | apply bN | apply bD | refine bS ?_ (IsS61.ge HI241.out) | refine bS ?_ GE238.out) | exact HB.out)); rintro e w7 ⟨v243, v246, v250, rfl, ho0, ho1, ho2, hi, hb, hk⟩; refine ⟨_, rfl, ?_⟩; replace BK238 := A0_ (KeepBut.blk hk (g' := gb238) (o := .cells #[.slice none 0 0, .slice none 0 0] 25 (0, 0)) (zK_ BK238) NB238_241.out (by simp)); have HO244 := A0_ (Kd.Q_lower ho0 (bZ (by repeat (first | (with_reducible first | exact HB.out | apply bA | apply bN | apply bD | refine bS ?_ (IsS61.ge HI241.out) | refine bS ?_ GE238.out) | exact HB.out)))); have HO247 := A0_ (rL ho1 (bZ (by repeat (first | (with_reducible first | exact HB.out | apply bA | apply bN | apply bD | refine bS ?_ (IsS61.ge HI241.out) | refine bS ?_ GE238.out) | exact HB.out)))); have HO251 := A0_ (Kd.S_lower ho2 (bZ (by repeat (first | (with_reducible first | exact HB.out | apply bA | apply bN | apply bD | refine bS ?_ (IsS61.ge HI241.out) | refine bS ?_ GE238.out) | exact HB.out)))); replace HB := A0_ (hb); replace HI241 := A0_ (hi); (try clear hb); (try clear ho0); (try clear ho1); (try clear ho2)) | ((with_reducible refine gD (N := 7) rfl ?_); refine box_event ?hg (N := 7) ?hd (cs := #[.slice none 0 0, .slice none 0 0]) (t := 25) ?hr ?_; (case hd => rfl); (case hg => rfl); (case hr => first | (go_simp; done) | (go_simp; rfl)); intro gb253 hg w8 hbox hb; replace HO244 := A0_ (Kd.Q_below (by (with_reducible repeat (first | apply Kd.Q_alloc | apply Kd.Q_drewN | apply Kd.Q_drew)); exact HO244.out) hb); replace HO247 := zR HO247 hb; replace HO251 := zS HO251 hb; have BK253 := A0_ (hbox); have GW253 := A0_ ((by rw [hg]; exact (bZ (by repeat (first | (with_reducible first | exact HB.out | apply bA | apply bN | apply bD | refine bS ?_ (IsS61.ge HI241.out) | refine bS ?_ GE238.out) | exact HB.out))) : w.heap.size ≤ gb253)); have GE253 := A0_ ((by rw [hg]; exact (bZ (by repeat (first | (with_reducible first | exact HB.out | apply bA | apply bN | apply bD | refine bS ?_ (IsS61.ge HI241.out) | refine bS ?_ GE238.out) | exact HB.out))) : w.heap.size ≤ gb253)); replace HB := A0_ (bT (by repeat (first | (with_reducible first | exact HB.out | apply bA | apply bN | apply bD | refine bS ?_ (IsS61.ge HI241.out) | refine bS ?_ GE238.out) | exact HB.out)) hb); have NB238_253 := zL hg BK238; have NB253_238 := zM hg BK238; replace BK238 := zK BK238 hb; have NB241_253 := A0_ ((by rw [hg]; exact Nat.ne_of_lt (IsS61.lt (show IsS61 w _ g241 t239 t252 from by repeat (first | (with_reducible first | exact HI241.out | apply IsS61.alloc | apply IsS61.drewN | apply IsS61.drew | apply IsS61.set_1 | refine IsS61.far ?_ NB241_238.out _) | exact HI241.out))) : g241 ≠ gb253)); have NB253_241 := A0_ ((by rw [hg]; exact Nat.ne_of_gt (IsS61.lt (show IsS61 w _ g241 t239 t252 from by repeat (first | (with_reducible first | exact HI241.out | apply IsS61.alloc | apply IsS61.drewN | apply IsS61.drew | apply IsS61.set_1 | refine IsS61.far ?_ NB241_238.out _) | exact HI241.out))) : gb253 ≠ g241)); replace HI241 := A0_ (IsS61.below (by repeat (first | (with_reducible first | exact HI241.out | apply IsS61.alloc | apply IsS61.drewN | apply IsS61.drew | apply IsS61.set_1 | refine IsS61.far ?_ NB241_238.out _) | exact HI241.out)) hb); clear hb hbox hg; obtain ⟨Ao9, co9, eo9, _⟩ := Kd.Q_slice HO244.out; subst eo9; have hnb10 := NB253_238.out; have hnc10 := NB238_253.out; have hnb11 := NB253_241.out; have hnc11 := NB241_253.out; have hcz12_0 : w8.cell? ⟨gb253, 0, none⟩ = some (.slice none 0 0) := (kC BK253.out 0).trans rfl; have hcz12_1 : w8.cell? ⟨gb253, 1, none⟩ = some (.slice none 0 0) := (kC BK253.out 1).trans rfl; have hfz12_0 := kF BK253.out 0; have hfz12_1 := kF BK253.out 1; obtain ⟨Ao13, co13, eo13⟩ := rS HO247.out; subst eo13))
 (try simp only [Act.put, List.setIfInBounds_toArray, List.set_cons_zero, List.set_cons_succ])
 go_cut [24] (fun v24 wc => ∃ (kq : Nat) (x24_3 : Bool) (x242001_3 : Int), v24 = .bool x24_3 ∧ Aside0 (spec_DrawCoverShift.j0 kq t248 t249 x24_3 t239 x242001_3 t242 t245 = some (r1, r2, r3, r4, r5)) ∧ Aside0 (kq ≤ k) ∧ Aside0 (Kd.S (Kd.slice 3 (Kd.int .i64)) 23 wc w.heap.size (fun k_ => some k_ ≠ ((.slice Ao9 t242.length co9) : Value).ownBlock ∧ some k_ ≠ ((.slice Ao13 t245.length co13) : Value).ownBlock) v250 t249) ∧ Aside0 (Kd.Q (Kd.int .i64) 3 wc w.heap.size (fun k_ => some k_ ≠ ((.slice Ao13 t245.length co13) : Value).ownBlock) (.slice Ao9 t242.length co9) t242) ∧ Aside0 (Kd.R (Kd.int .i64) 3 wc w.heap.size (fun k_ => some k_ ≠ ((.slice Ao9 t242.length co9) : Value).ownBlock) (.slice Ao13 t245.length co13) t245) ∧ Aside0 (wc.heap[gb238]? = some (.cells #[(.slice none 0 0), (.slice none 0 0)] 25 (0, 0))) ∧ Aside0 (wc.heap[gb253]? = some (.cells #[(.slice Ao9 t242.length co9), (.slice Ao13 t245.length co13)] 25 (0, 0))) ∧ Aside0 (IsS61 w wc g241 t239 x242001_3) ∧ Aside0 (Below w.heap.size w wc))
 case first =>
  have H := HC4.out; clear HC4
  by_cases c14 : t248 > 0
  ·rw [if_pos c14] at H
   have c14b0 : decide (0 < t248) = true := dT c14
   clear c14
   (first | rw [c14b0] | (simp only [i64_w, i32_w]; rw [c14b0]) | skip)
   obtain ⟨⟨t254, t255⟩, A15, H⟩ := zbind H; dsimp only at H; have H' := A0_ H; clear H
   go_wp2_with (first | (go_at_call 22; (with_reducible refine (spec_l6Rd_pick.calls k g241 t239 t252 3 t254 t255 w _ ?side1 ?side2 A15.out).mono ?_); (case side1 => repeat (first | (with_reducible first | exact HI241.out | apply IsS61.alloc | apply IsS61.drewN | apply IsS61.drew | apply IsS61.set_1 | refine IsS61.far ?_ NB241_238.out _ | refine IsS61.far ?_ NB241_253.out _) | exact HI241.out)); (case side2 => repeat (first | (with_reducible first | exact HB.out | apply bA | apply bN | apply bD | refine bS ?_ (IsS61.ge HI241.out) | refine bS ?_ GE238.out | refine bS ?_ GE253.out) | exact HB.out)); rintro e w16 ⟨rfl, hi, hb, hk⟩; replace BK238 := A0_ (KeepBut.blk hk (g' := gb238) (o := .cells #[.slice none 0 0, .slice none 0 0] 25 (0, 0)) (by (with_reducible repeat (first | refine kN ?_ _ | refine kD ?_ | refine kA ?_ _)); refine blk_far ?_ NB238_253.out _; (with_reducible repeat (first | refine kN ?_ _ | refine kD ?_ | refine kA ?_ _)); refine blk_far ?_ NB238_253.out _; (with_reducible repeat (first | refine kN ?_ _ | refine kD ?_ | refine kA ?_ _)); exact BK238.out) NB238_241.out (by simp)); replace HO244 := A0_ (Kd.Q_mono (Kd.Q_keep (IsS61.apartQ (show IsS61 w _ g241 t239 t252 from by repeat (first | (with_reducible first | exact HI241.out | apply IsS61.alloc | apply IsS61.drewN | apply IsS61.drew | apply IsS61.set_1 | refine IsS61.far ?_ NB241_238.out _ | refine IsS61.far ?_ NB241_253.out _) | exact HI241.out)) (by (with_reducible repeat (first | apply Kd.Q_alloc | apply Kd.Q_drewN | apply Kd.Q_drew)); exact (Kd.Q_mono (Kd.Q_far (p := ⟨gb253, 1, none⟩) (Kd.Q_far (p := ⟨gb253, 0, none⟩) (Kd.Q_types HO244.out BK253.out (by decide)) (fun _ hk => hk.2) (.slice Ao9 t242.length co9)) (fun _ hk => hk.2) (.slice Ao13 t245.length co13)) (fun _ h_ => h_.1))) (by decide)) hk (fun _ h => h.2)) (fun _ h => h.1)); replace HO247 := A0_ (rM (Kd.R_keep (IsS61.apart (show IsS61 w _ g241 t239 t252 from by repeat (first | (with_reducible first | exact HI241.out | apply IsS61.alloc | apply IsS61.drewN | apply IsS61.drew | apply IsS61.set_1 | refine IsS61.far ?_ NB241_238.out _ | refine IsS61.far ?_ NB241_253.out _) | exact HI241.out)) (zF HO247 BK253 (.slice Ao9 t242.length co9) (.slice Ao13 t245.length co13) 0 1) (by decide)) hk (fun _ h => h.2)) (fun _ h => h.1)); replace HO251 := A0_ (sM (Kd.S_keep (IsS61.apartS (show IsS61 w _ g241 t239 t252 from by repeat (first | (with_reducible first | exact HI241.out | apply IsS61.alloc | apply IsS61.drewN | apply IsS61.drew | apply IsS61.set_1 | refine IsS61.far ?_ NB241_238.out _ | refine IsS61.far ?_ NB241_253.out _) | exact HI241.out)) (zFS HO251 BK253 (.slice Ao9 t242.length co9) (.slice Ao13 t245.length co13) 0 1) (by decide)) hk (fun _ h => h.2)) (fun _ h => h.1)); replace BK253 := A0_ (KeepBut.blk hk (g' := gb253) (o := .cells #[.slice Ao9 t242.length co9, .slice Ao13 t245.length co13] 25 (0, 0)) (by (with_reducible repeat (first | refine kN ?_ _ | refine kD ?_ | refine kA ?_ _)); refine blk_put (cs := #[.slice Ao9 t242.length co9, .slice none 0 0]) ?_ 1 _ rfl; (with_reducible repeat (first | refine kN ?_ _ | refine kD ?_ | refine kA ?_ _)); refine blk_put (cs := #[.slice none 0 0, .slice none 0 0]) ?_ 0 _ rfl; (with_reducible repeat (first | refine kN ?_ _ | refine kD ?_ | refine kA ?_ _)); exact BK253.out) NB253_241.out (by simp)); replace HB := A0_ (hb); replace HI241 := A0_ (hi); (try clear hb)))
   go_meet
   case rel => exact ⟨_, ((t254 == 0)), (t255), zt, H', zo, ⟨zS_ HO251⟩, ⟨by (with_reducible repeat (first | apply Kd.Q_alloc | apply Kd.Q_drewN | apply Kd.Q_drew)); exact HO244.out⟩, ⟨zR_ HO247⟩, ⟨zK_ BK238⟩, ⟨zK_ BK253⟩, ⟨by repeat (first | (with_reducible first | exact HI241.out | apply IsS61.alloc | apply IsS61.drewN | apply IsS61.drew | apply IsS61.set_1 | refine IsS61.far ?_ NB241_238.out _ | refine IsS61.far ?_ NB241_253.out _) | exact HI241.out)⟩, ⟨by repeat (first | (with_reducible first | exact HB.out | apply bA | apply bN | apply bD | refine bS ?_ (IsS61.ge HI241.out) | refine bS ?_ GE238.out | refine bS ?_ GE253.out) | exact HB.out)⟩⟩
  rw [if_neg c14] at H
  have c14b0 : decide (0 < t248) = false := dF c14
  clear c14
  (first | rw [c14b0] | (simp only [i64_w, i32_w]; rw [c14b0]) | skip)
  have H' := A0_ H; clear H
  go_wp2
  go_meet
  case rel => exact ⟨_, (false), (t252), zt, H', zo, ⟨by (with_reducible repeat (first | apply sA | apply sN | apply sD)); exact sM (Kd.S_far (p := ⟨gb253, 1, none⟩) (Kd.S_far (p := ⟨gb253, 0, none⟩) (Kd.S_types HO251.out BK253.out (by decide)) (fun _ hk => hk.2) (.slice Ao9 t242.length co9)) (fun _ hk => hk.2) (.slice Ao13 t245.length co13)) (fun _ hk => ⟨hk.1.1, hk.1.2⟩)⟩, ⟨by (with_reducible repeat (first | apply Kd.Q_alloc | apply Kd.Q_drewN | apply Kd.Q_drew)); exact Kd.Q_mono (Kd.Q_far (p := ⟨gb253, 1, none⟩) (Kd.Q_far (p := ⟨gb253, 0, none⟩) (Kd.Q_types HO244.out BK253.out (by decide)) (fun _ hk => hk.2) (.slice Ao9 t242.length co9)) (fun _ hk => hk.2) (.slice Ao13 t245.length co13)) (fun _ hk => hk.1)⟩, ⟨zF HO247 BK253 (.slice Ao9 t242.length co9) (.slice Ao13 t245.length co13) 0 1⟩, ⟨by (with_reducible repeat (first | refine kN ?_ _ | refine kD ?_ | refine kA ?_ _)); refine blk_far ?_ NB238_253.out _; (with_reducible repeat (first | refine kN ?_ _ | refine kD ?_ | refine kA ?_ _)); refine blk_far ?_ NB238_253.out _; (with_reducible repeat (first | refine kN ?_ _ | refine kD ?_ | refine kA ?_ _)); exact BK238.out⟩, ⟨by (with_reducible repeat (first | refine kN ?_ _ | refine kD ?_ | refine kA ?_ _)); refine blk_put (cs := #[.slice Ao9 t242.length co9, .slice none 0 0]) ?_ 1 _ rfl; (with_reducible repeat (first | refine kN ?_ _ | refine kD ?_ | refine kA ?_ _)); refine blk_put (cs := #[.slice none 0 0, .slice none 0 0]) ?_ 0 _ rfl; (with_reducible repeat (first | refine kN ?_ _ | refine kD ?_ | refine kA ?_ _)); exact BK253.out⟩, ⟨by repeat (first | (with_reducible first | exact HI241.out | apply IsS61.alloc | apply IsS61.drewN | apply IsS61.drew | apply IsS61.set_1 | refine IsS61.far ?_ NB241_238.out _ | refine IsS61.far ?_ NB241_253.out _) | exact HI241.out)⟩, ⟨by repeat (first | (with_reducible first | exact HB.out | apply bA | apply bN | apply bD | refine bS ?_ (IsS61.ge HI241.out) | refine bS ?_ GE238.out | refine bS ?_ GE253.out) | exact HB.out)⟩⟩
 case rest =>
  clear HC4; (try clear c1); (try clear c2); (try clear p2); (try clear c5); (try clear c10); (try clear c11); (try clear c14); (try clear c14b0); (try clear hcz12_0); (try clear hcz12_1); (try clear hfz12_0); (try clear hfz12_1); obtain ⟨kq, x24_3, x242001_3, rfl, HA, HJ3, HO_9, HO_254000, HO_254001, BK238, BK253, HI241, HB⟩ := hcut
  cases kq with
  | zero => exact absurd HA.out (by simp [spec_DrawCoverShift.j0])
  | succ kj3 =>
   have H := HA.out; clear HA; simp only [spec_DrawCoverShift.j0] at H
   by_cases c17 : x24_3 = true
   ·subst c17
    have H1 : ((spec_l1Same.f kj3 t248).bind fun t256 => (some (t242, t245, t248, t249, t256))) = some (r1, r2, r3, r4, r5) := by rw [if_pos rfl] at H; exact H
    clear H; have H := H1; clear H1; obtain ⟨t256, A18, H⟩ := zbind H; simp only [Option.some.injEq, Prod.mk.injEq] at H; obtain ⟨rfl, rfl, rfl, rfl, rfl⟩ := H
    try go_wp2
    replace HO_9 := A0_ (sD HO_9.out)
    replace HO_254000 := A0_ (Kd.Q_drew HO_254000.out)
    replace HO_254001 := A0_ (rD HO_254001.out)
    replace BK238 := A0_ (kD BK238.out)
    replace BK253 := A0_ (kD BK253.out)
    replace HI241 := A0_ (IsS61.drew HI241.out)
    replace HB := A0_ (bD HB.out)
    refine start_ (n := 9) (S := fun w' => w'.cell? ⟨gb253, 0, none⟩ = some (.slice Ao9 t242.length co9) ∧ w'.cell? ⟨gb253, 1, none⟩ = some (.slice Ao13 t245.length co13)) (ds := []) #[false, false, false, false, false, false, false, false, false] (by kernel_rfl) rfl rfl ⟨(kC BK253.out 0).trans rfl, (kC BK253.out 1).trans rfl⟩ (fun hHeld => ?_); refine with_tabW spec_DrawCoverShift.tab4 spec_DrawCoverShift.bits4 (fun HT_ HW_ => ?_)
    generalize wc.drew = w19 at HO_9 HO_254000 HO_254001 BK238 BK253 HI241 HB hHeld ⊢
    refine pure_ (i := 1) (N := some 26) (v := ?_) (a' := ?_) #[false, true, false, false, false, false, false, false, false] rfl rfl (any_of HT_.out (by kernel_rfl)) (fun _ _ _ h => h) (Or.inl ⟨by rfl, ?_⟩) ?_ ?_
    rotate_left
    ·intro w'
     go_simp
     with_reducible rfl
    rotate_left
    ·simp only [Act.put, List.setIfInBounds_toArray, List.set_cons_zero, List.set_cons_succ, i64_w, i32_w]
     rfl
    refine pure_ (i := 2) (N := some 27) (v := ?_) (a' := ?_) #[false, true, true, false, false, false, false, false, false] rfl rfl (any_of HT_.out (by kernel_rfl)) (fun _ _ _ h => h) (Or.inl ⟨by rfl, ?_⟩) ?_ ?_
    rotate_left
    ·intro w'
     go_simp
     with_reducible rfl
    rotate_left
    ·simp only [Act.put, List.setIfInBounds_toArray, List.set_cons_zero, List.set_cons_succ, i64_w, i32_w]
     rfl
    refine pure_ (i := 3) (N := some 28) (v := ?_) (a' := ?_) #[false, true, true, true, false, false, false, false, false] rfl rfl (any_of HT_.out (by kernel_rfl)) (fun _ _ _ h => h) (Or.inl ⟨by rfl, ?_⟩) ?_ ?_
    rotate_left
    ·intro w'
     go_simp
     with_reducible rfl
    rotate_left
    ·simp only [Act.put, List.setIfInBounds_toArray, List.set_cons_zero, List.set_cons_succ, i64_w, i32_w]
     rfl
    refine take_ (i := 0) (N := some 25) (v := ?_) (a' := ?_) #[true, true, true, true, false, false, false, false, false] rfl rfl (take_ofW HT_.out HW_.out (by kernel_rfl)) (fun _ _ _ h => h) (Or.inl ⟨by rfl, ?_⟩) hHeld ?_ ?_
    rotate_left
    ·rintro w' ⟨s0, s1⟩
     go_simp
     with_reducible rfl
    rotate_left
    ·simp only [Act.put, List.setIfInBounds_toArray, List.set_cons_zero, List.set_cons_succ, i64_w, i32_w]
     rfl
    refine one_ (i := 4) (N := some 29) #[true, true, true, true, true, false, false, false, false] rfl rfl (one_of HT_.out (by kernel_rfl)) (by decide) (fun K hK => ?_)
    refine goes_ Try.func23 (by kernel_rfl) rfl #[.int .i64 t248] (by rfl) rfl rfl (by (try simp only [List.map_toArray, List.map_cons, List.map_nil]); first | done | rfl | (simp only [List.length_drop, List.length_take]; rfl)) ?_
    with_reducible refine (spec_l1Same.calls kj3 t248 t256 _ A18.out).mono ?_
    rintro e w20 ⟨v257, rfl, ho0, hb⟩
    refine ⟨_, rfl, ?_⟩
    replace HO_9 := A0_ (Kd.S_elder' (zS_ HO_9) (Kd.R_base ho0) hb)
    have HO258 := A0_ (rL (Kd.R_new' (Kd.R_new' ho0 (Kd.Q_lt (by (with_reducible repeat (first | apply Kd.Q_alloc | apply Kd.Q_drewN | apply Kd.Q_drew)); exact HO_254000.out))) (rX (zR_ HO_254001))) (bZ (by repeat (first | (with_reducible first | exact HB.out | apply bA | apply bN | apply bD | refine bS ?_ (IsS61.ge HI241.out) | refine bS ?_ GE238.out | refine bS ?_ GE253.out) | exact HB.out))))
    replace HO_254000 := A0_ (Kd.Q_elder' (by (with_reducible repeat (first | apply Kd.Q_alloc | apply Kd.Q_drewN | apply Kd.Q_drew)); exact HO_254000.out) (Kd.R_base ho0) hb)
    replace HO_254001 := A0_ (Kd.R_elder' (zR_ HO_254001) (Kd.R_base ho0) hb)
    replace BK238 := zK BK238 hb; replace BK253 := zK BK253 hb
    replace HB := A0_ (bT (by repeat (first | (with_reducible first | exact HB.out | apply bA | apply bN | apply bD | refine bS ?_ (IsS61.ge HI241.out) | refine bS ?_ GE238.out | refine bS ?_ GE253.out) | exact HB.out)) hb)
    replace HI241 := A0_ (IsS61.below (by repeat (first | (with_reducible first | exact HI241.out | apply IsS61.alloc | apply IsS61.drewN | apply IsS61.drew | apply IsS61.set_1 | refine IsS61.far ?_ NB241_238.out _ | refine IsS61.far ?_ NB241_253.out _) | exact HI241.out)) hb)
    (try clear hb); (try clear hb2); (try clear hk); (try clear hi); (try clear ho0)
    refine hK.out _ _ ⟨(kC BK253.out 0).trans rfl, (kC BK253.out 1).trans rfl⟩ (fun hHeld => ?_)
    clear hK K
    refine norm_ (a' := ?_) ?_ ?_
    rotate_left
    ·show Act.put _ (some 29) _ = _
     simp only [Act.put, List.setIfInBounds_toArray, List.set_cons_zero, List.set_cons_succ, i64_w, i32_w]
     rfl
    refine one_ (i := 5) (N := none) #[true, true, true, true, true, true, false, false, false] rfl rfl (one_of HT_.out (by kernel_rfl)) (by decide) (fun K hK => ?_)
    have hs21 : w20.cell? ⟨gb238, 0, none⟩ = some (.slice none 0 0) := (kC BK238.out 0).trans rfl
    have hfs21 := kF BK238.out 0; have hns21_1 := NB253_238.out; have hms21_1 := NB238_253.out
    have hs22 : w20.cell? ⟨gb238, 1, none⟩ = some (.slice none 0 0) := (kC BK238.out 1).trans rfl
    have hfs22 := kF BK238.out 1; have hns22_1 := NB253_238.out; have hms22_1 := NB238_253.out
    refine skip_ (w1 := ?_) (by rfl) rfl ?_ ?_
    rotate_left
    ·go_simp
     rfl
    refine hK.out _ _ ⟨((cell_far (p := ⟨gb238, _, none⟩) NB253_238.out _).trans (((cell_far (p := ⟨gb238, _, none⟩) NB253_238.out _).trans (hHeld.1)))), ((cell_far (p := ⟨gb238, _, none⟩) NB253_238.out _).trans (((cell_far (p := ⟨gb238, _, none⟩) NB253_238.out _).trans (hHeld.2))))⟩ (fun hHeld => ?_)
    clear hK K
    refine pure_ (i := 6) (N := some 3) (v := ?_) (a' := ?_) #[true, true, true, true, true, true, true, false, false] rfl rfl (any_of HT_.out (by kernel_rfl)) (fun _ _ _ h => h) (Or.inl ⟨by rfl, ?_⟩) ?_ ?_
    rotate_left
    ·intro w'
     go_simp
     with_reducible rfl
    rotate_left
    ·simp only [Act.put, List.setIfInBounds_toArray, List.set_cons_zero, List.set_cons_succ, i64_w, i32_w]
     rfl
    refine pure_ (i := 7) (N := some 4) (v := ?_) (a' := ?_) #[true, true, true, true, true, true, true, true, false] rfl rfl (any_of HT_.out (by kernel_rfl)) (fun _ _ _ h => h) (Or.inl ⟨by rfl, ?_⟩) ?_ ?_
    rotate_left
    ·intro w'
     go_simp
     with_reducible rfl
    rotate_left
    ·simp only [Act.put, List.setIfInBounds_toArray, List.set_cons_zero, List.set_cons_succ, i64_w, i32_w]
     rfl
    refine pure_ (i := 8) (N := some 5) (v := ?_) (a' := ?_) #[true, true, true, true, true, true, true, true, true] rfl rfl (any_of HT_.out (by kernel_rfl)) (fun _ _ _ h => h) (Or.inl ⟨by rfl, ?_⟩) ?_ ?_
    rotate_left
    ·intro w'
     go_simp
     with_reducible rfl
    rotate_left
    ·simp only [Act.put, List.setIfInBounds_toArray, List.set_cons_zero, List.set_cons_succ, i64_w, i32_w]
     rfl
    refine done_ (done_of HT_.out (by kernel_rfl)) ?_
    try go_wp2
    refine bodyPost_ret (results_list (rs := [.cell 2 25, .tmp 3, .tmp 4, .tmp 5]) rfl (by simp) (.cell gb238 25 #[.slice Ao9 t242.length co9, .slice Ao13 t245.length co13] (0, 0) _ rfl (by (with_reducible repeat (first | refine kN ?_ _ | refine kD ?_ | refine kA ?_ _)); refine blk_put (cs := #[.slice Ao9 t242.length co9, .slice none 0 0]) ?_ 1 _ rfl; (with_reducible repeat (first | refine kN ?_ _ | refine kD ?_ | refine kA ?_ _)); refine blk_put (cs := #[.slice none 0 0, .slice none 0 0]) ?_ 0 _ rfl; (with_reducible repeat (first | refine kN ?_ _ | refine kD ?_ | refine kA ?_ _)); exact BK238.out) Try.underlying25 rfl (by kernel_rfl) (.tmp (.tmp (.tmp .nil))))) rfl ?_
    exact ⟨_, _, _, _, by first | rfl | (simp [*] <;> rfl), by (with_reducible repeat (first | apply Kd.Q_alloc | apply Kd.Q_drewN | apply Kd.Q_drew)); exact Kd.Q_mono (Kd.Q_far (p := ⟨gb238, 1, none⟩) (Kd.Q_far (p := ⟨gb238, 0, none⟩) (Kd.Q_types HO_254000.out BK238.out (by decide)) (fun _ hk => hk.2) (.slice Ao9 t242.length co9)) (fun _ hk => hk.2) (.slice Ao13 t245.length co13)) (fun _ hk => ⟨hk.1.1, hk.1.2⟩), by (with_reducible repeat (first | apply rA | apply rN | apply rD)); exact rM (rF (p := ⟨gb238, 1, none⟩) (rF (p := ⟨gb238, 0, none⟩) (rY HO_254001.out BK238.out (by decide)) (fun _ hk => hk.2) (.slice Ao9 t242.length co9)) (fun _ hk => hk.2) (.slice Ao13 t245.length co13)) (fun _ hk => ⟨hk.1.1, hk.1.2⟩), by (with_reducible repeat (first | apply sA | apply sN | apply sD)); exact sM (Kd.S_far (p := ⟨gb238, 1, none⟩) (Kd.S_far (p := ⟨gb238, 0, none⟩) (Kd.S_types HO_9.out BK238.out (by decide)) (fun _ hk => hk.2) (.slice Ao9 t242.length co9)) (fun _ hk => hk.2) (.slice Ao13 t245.length co13)) (fun _ hk => ⟨hk.1.1.1, ⟨hk.1.1.2, hk.1.2⟩⟩), by (with_reducible repeat (first | apply rA | apply rN | apply rD)); exact rM (rF (p := ⟨gb238, 1, none⟩) (rF (p := ⟨gb238, 0, none⟩) (rY HO258.out BK238.out (by decide)) (fun _ hk => hk.2) (.slice Ao9 t242.length co9)) (fun _ hk => hk.2) (.slice Ao13 t245.length co13)) (fun _ hk => ⟨hk.1.1.2, hk.1.2⟩), by repeat (first | (with_reducible first | exact HB.out | apply bA | apply bN | apply bD | refine bS ?_ (IsS61.ge HI241.out) | refine bS ?_ GE238.out | refine bS ?_ GE253.out) | exact HB.out)⟩
   replace c17 := Bool.eq_false_iff.mpr c17; subst c17
   have H1 : ((spec_l91Perm.f kj3 t239 x242001_3 (mx 1 t248)).bind fun bt259 => (some (t242, t245, t248, t249, bt259.1))) = some (r1, r2, r3, r4, r5) := by rw [if_neg (show ¬ (false = true) by decide)] at H; exact H
   clear H; have H := H1; clear H1
   obtain ⟨ji23, hji23⟩ : ∃ j_ : Int, (mx 1 t248) = j_ := ⟨_, rfl⟩
   replace H : ((spec_l91Perm.f kj3 t239 x242001_3 (ji23)).bind fun bt259 => (some (t242, t245, t248, t249, bt259.1))) = some (r1, r2, r3, r4, r5) := by first | (rw [hji23] at H; exact H) | (simp only [hji23] at H ⊢; exact H)
   have hji23_ : (if 1 < t248 then t248 else 1) = ji23 := hji23
   obtain ⟨⟨t259, t262⟩, A24, H⟩ := zbind H; dsimp only at H; simp only [Option.some.injEq, Prod.mk.injEq] at H; obtain ⟨rfl, rfl, rfl, rfl, rfl⟩ := H
   try go_wp2
   replace HO_9 := A0_ (sD HO_9.out)
   replace HO_254000 := A0_ (Kd.Q_drew HO_254000.out)
   replace HO_254001 := A0_ (rD HO_254001.out)
   replace BK238 := A0_ (kD BK238.out)
   replace BK253 := A0_ (kD BK253.out)
   replace HI241 := A0_ (IsS61.drew HI241.out)
   replace HB := A0_ (bD HB.out)
   refine start_ (n := 11) (S := fun w' => w'.cell? ⟨gb253, 0, none⟩ = some (.slice Ao9 t242.length co9) ∧ w'.cell? ⟨gb253, 1, none⟩ = some (.slice Ao13 t245.length co13)) (ds := []) #[false, false, false, false, false, false, false, false, false, false, false] (by kernel_rfl) rfl rfl ⟨(kC BK253.out 0).trans rfl, (kC BK253.out 1).trans rfl⟩ (fun hHeld => ?_); refine with_tabW spec_DrawCoverShift.tab5 spec_DrawCoverShift.bits5 (fun HT_ HW_ => ?_)
   generalize wc.drew = w25 at HO_9 HO_254000 HO_254001 BK238 BK253 HI241 HB hHeld ⊢
   refine pure_ (i := 1) (N := some 31) (v := ?_) (a' := ?_) #[false, true, false, false, false, false, false, false, false, false, false] rfl rfl (any_of HT_.out (by kernel_rfl)) (fun _ _ _ h => h) (Or.inl ⟨by rfl, ?_⟩) ?_ ?_
   rotate_left
   ·intro w'
    go_simp
    with_reducible rfl
   rotate_left
   ·simp only [Act.put, List.setIfInBounds_toArray, List.set_cons_zero, List.set_cons_succ, i64_w, i32_w]
    rfl
   refine pure_ (i := 2) (N := some 32) (v := ?_) (a' := ?_) #[false, true, true, false, false, false, false, false, false, false, false] rfl rfl (any_of HT_.out (by kernel_rfl)) (fun _ _ _ h => h) (Or.inl ⟨by rfl, ?_⟩) ?_ ?_
   rotate_left
   ·intro w'
    go_simp
    with_reducible rfl
   rotate_left
   ·simp only [Act.put, List.setIfInBounds_toArray, List.set_cons_zero, List.set_cons_succ, i64_w, i32_w]
    rfl
   refine pure_ (i := 3) (N := some 33) (v := ?_) (a' := ?_) #[false, true, true, true, false, false, false, false, false, false, false] rfl rfl (any_of HT_.out (by kernel_rfl)) (fun _ _ _ h => h) (Or.inl ⟨by rfl, ?_⟩) ?_ ?_
   rotate_left
   ·intro w'
    go_simp
    with_reducible rfl
   rotate_left
   ·simp only [Act.put, List.setIfInBounds_toArray, List.set_cons_zero, List.set_cons_succ, i64_w, i32_w]
    rfl
   refine pure_ (i := 4) (N := some 34) (v := ?_) (a' := ?_) #[false, true, true, true, true, false, false, false, false, false, false] rfl rfl (any_of HT_.out (by kernel_rfl)) (fun _ _ _ h => h) (Or.inl ⟨by rfl, ?_⟩) ?_ ?_
   rotate_left
   ·intro w'
    go_simp
    with_reducible rfl
   rotate_left
   ·simp only [Act.put, List.setIfInBounds_toArray, List.set_cons_zero, List.set_cons_succ, i64_w, i32_w]
    rfl
   refine pure_ (i := 5) (N := some 35) (v := ?_) (a' := ?_) #[false, true, true, true, true, true, false, false, false, false, false] rfl rfl (any_of HT_.out (by kernel_rfl)) (fun _ _ _ h => h) (Or.inl ⟨by rfl, ?_⟩) ?_ ?_
   rotate_left
   ·intro w'
    go_simp
    with_reducible rfl
   rotate_left
   ·simp only [Act.put, List.setIfInBounds_toArray, List.set_cons_zero, List.set_cons_succ, i64_w, i32_w]
    rfl
   refine take_ (i := 0) (N := some 30) (v := ?_) (a' := ?_) #[true, true, true, true, true, true, false, false, false, false, false] rfl rfl (take_ofW HT_.out HW_.out (by kernel_rfl)) (fun _ _ _ h => h) (Or.inl ⟨by rfl, ?_⟩) hHeld ?_ ?_
   rotate_left
   ·rintro w' ⟨s0, s1⟩
    go_simp
    with_reducible rfl
   rotate_left
   ·simp only [Act.put, List.setIfInBounds_toArray, List.set_cons_zero, List.set_cons_succ, i64_w, i32_w]
    rfl
   refine one_ (i := 6) (N := some 36) #[true, true, true, true, true, true, true, false, false, false, false] rfl rfl (one_of HT_.out (by kernel_rfl)) (by decide) (fun K hK => ?_)
   refine goes_ Try.func24 (by kernel_rfl) rfl #[.pointer (some ⟨g241, 0, none⟩), .int .i64 ji23] (by rfl) rfl rfl (by (try simp only [List.map_toArray, List.map_cons, List.map_nil]); first | done | (simp only [hji23]; rfl) | rfl | (simp only [List.length_drop, List.length_take]; rfl)) ?_
   with_reducible refine (spec_l91Perm.calls kj3 g241 t239 x242001_3 ji23 t259 t262 w _ ?side1 ?side2 A24.out).mono ?_
   (case side1 => repeat (first | (with_reducible first | exact HI241.out | apply IsS61.alloc | apply IsS61.drewN | apply IsS61.drew | apply IsS61.set_1 | refine IsS61.far ?_ NB241_238.out _ | refine IsS61.far ?_ NB241_253.out _) | exact HI241.out))
   (case side2 => repeat (first | (with_reducible first | exact HB.out | apply bA | apply bN | apply bD | refine bS ?_ (IsS61.ge HI241.out) | refine bS ?_ GE238.out | refine bS ?_ GE253.out) | exact HB.out))
   rintro e w26 ⟨v260, rfl, ho0, hi, hb, hk⟩
   refine ⟨_, rfl, ?_⟩
   replace HO_9 := A0_ (sM (Kd.S_told (Kd.S_oldK (IsS61.apartS (show IsS61 w _ g241 t239 x242001_3 from by repeat (first | (with_reducible first | exact HI241.out | apply IsS61.alloc | apply IsS61.drewN | apply IsS61.drew | apply IsS61.set_1 | refine IsS61.far ?_ NB241_238.out _ | refine IsS61.far ?_ NB241_253.out _) | exact HI241.out)) (zS_ HO_9) (by decide)) hk) (Kd.R_base ho0)) (fun _ h_ => h_.1))
   replace BK238 := A0_ (KeepBut.blk hk (g' := gb238) (o := .cells #[.slice none 0 0, .slice none 0 0] 25 (0, 0)) (zK_ BK238) NB238_241.out (by simp))
   replace BK253 := A0_ (KeepBut.blk hk (g' := gb253) (o := .cells #[.slice Ao9 t242.length co9, .slice Ao13 t245.length co13] 25 (0, 0)) (zK_ BK253) NB253_241.out (by simp))
   have HO261 := A0_ (rL (Kd.R_new' (Kd.R_new' ho0 (Kd.Q_lt (by (with_reducible repeat (first | apply Kd.Q_alloc | apply Kd.Q_drewN | apply Kd.Q_drew)); exact HO_254000.out))) (rX (zR_ HO_254001))) (bZ (by repeat (first | (with_reducible first | exact HB.out | apply bA | apply bN | apply bD | refine bS ?_ (IsS61.ge HI241.out) | refine bS ?_ GE238.out | refine bS ?_ GE253.out) | exact HB.out))))
   replace HO_254000 := A0_ (Kd.Q_mono (Kd.Q_told (Kd.Q_oldK (IsS61.apartQ (show IsS61 w _ g241 t239 x242001_3 from by repeat (first | (with_reducible first | exact HI241.out | apply IsS61.alloc | apply IsS61.drewN | apply IsS61.drew | apply IsS61.set_1 | refine IsS61.far ?_ NB241_238.out _ | refine IsS61.far ?_ NB241_253.out _) | exact HI241.out)) (by (with_reducible repeat (first | apply Kd.Q_alloc | apply Kd.Q_drewN | apply Kd.Q_drew)); exact HO_254000.out) (by decide)) hk) (Kd.R_base ho0)) (fun _ h_ => h_.1))
   replace HO_254001 := A0_ (rM (rT (Kd.R_oldK (IsS61.apart (show IsS61 w _ g241 t239 x242001_3 from by repeat (first | (with_reducible first | exact HI241.out | apply IsS61.alloc | apply IsS61.drewN | apply IsS61.drew | apply IsS61.set_1 | refine IsS61.far ?_ NB241_238.out _ | refine IsS61.far ?_ NB241_253.out _) | exact HI241.out)) (zR_ HO_254001) (by decide)) hk) (Kd.R_base ho0)) (fun _ h_ => h_.1))
   replace HB := A0_ (hb)
   replace HI241 := A0_ (hi)
   (try clear hb); (try clear hb2); (try clear hk); (try clear hi); (try clear ho0)
   refine hK.out _ _ ⟨(kC BK253.out 0).trans rfl, (kC BK253.out 1).trans rfl⟩ (fun hHeld => ?_)
   clear hK K
   refine norm_ (a' := ?_) ?_ ?_
   rotate_left
   ·show Act.put _ (some 36) _ = _
    simp only [Act.put, List.setIfInBounds_toArray, List.set_cons_zero, List.set_cons_succ, i64_w, i32_w]
    rfl
   refine one_ (i := 7) (N := none) #[true, true, true, true, true, true, true, true, false, false, false] rfl rfl (one_of HT_.out (by kernel_rfl)) (by decide) (fun K hK => ?_)
   have hs27 : w26.cell? ⟨gb238, 0, none⟩ = some (.slice none 0 0) := (kC BK238.out 0).trans rfl
   have hfs27 := kF BK238.out 0; have hns27_1 := NB253_238.out; have hms27_1 := NB238_253.out
   have hs28 : w26.cell? ⟨gb238, 1, none⟩ = some (.slice none 0 0) := (kC BK238.out 1).trans rfl
   have hfs28 := kF BK238.out 1; have hns28_1 := NB253_238.out; have hms28_1 := NB238_253.out
   refine skip_ (w1 := ?_) (by rfl) rfl ?_ ?_
   rotate_left
   ·go_simp
    rfl
   refine hK.out _ _ ⟨((cell_far (p := ⟨gb238, _, none⟩) NB253_238.out _).trans (((cell_far (p := ⟨gb238, _, none⟩) NB253_238.out _).trans (hHeld.1)))), ((cell_far (p := ⟨gb238, _, none⟩) NB253_238.out _).trans (((cell_far (p := ⟨gb238, _, none⟩) NB253_238.out _).trans (hHeld.2))))⟩ (fun hHeld => ?_)
   clear hK K
   refine pure_ (i := 8) (N := some 3) (v := ?_) (a' := ?_) #[true, true, true, true, true, true, true, true, true, false, false] rfl rfl (any_of HT_.out (by kernel_rfl)) (fun _ _ _ h => h) (Or.inl ⟨by rfl, ?_⟩) ?_ ?_
   rotate_left
   ·intro w'
    go_simp
    with_reducible rfl
   rotate_left
   ·simp only [Act.put, List.setIfInBounds_toArray, List.set_cons_zero, List.set_cons_succ, i64_w, i32_w]
    rfl
   refine pure_ (i := 9) (N := some 4) (v := ?_) (a' := ?_) #[true, true, true, true, true, true, true, true, true, true, false] rfl rfl (any_of HT_.out (by kernel_rfl)) (fun _ _ _ h => h) (Or.inl ⟨by rfl, ?_⟩) ?_ ?_
   rotate_left
   ·intro w'
    go_simp
    with_reducible rfl
   rotate_left
   ·simp only [Act.put, List.setIfInBounds_toArray, List.set_cons_zero, List.set_cons_succ, i64_w, i32_w]
    rfl
   refine pure_ (i := 10) (N := some 5) (v := ?_) (a' := ?_) #[true, true, true, true, true, true, true, true, true, true, true] rfl rfl (any_of HT_.out (by kernel_rfl)) (fun _ _ _ h => h) (Or.inl ⟨by rfl, ?_⟩) ?_ ?_
   rotate_left
   ·intro w'
    go_simp
    with_reducible rfl
   rotate_left
   ·simp only [Act.put, List.setIfInBounds_toArray, List.set_cons_zero, List.set_cons_succ, i64_w, i32_w]
    rfl
   refine done_ (done_of HT_.out (by kernel_rfl)) ?_
   try go_wp2
   refine bodyPost_ret (results_list (rs := [.cell 2 25, .tmp 3, .tmp 4, .tmp 5]) rfl (by simp) (.cell gb238 25 #[.slice Ao9 t242.length co9, .slice Ao13 t245.length co13] (0, 0) _ rfl (by (with_reducible repeat (first | refine kN ?_ _ | refine kD ?_ | refine kA ?_ _)); refine blk_put (cs := #[.slice Ao9 t242.length co9, .slice none 0 0]) ?_ 1 _ rfl; (with_reducible repeat (first | refine kN ?_ _ | refine kD ?_ | refine kA ?_ _)); refine blk_put (cs := #[.slice none 0 0, .slice none 0 0]) ?_ 0 _ rfl; (with_reducible repeat (first | refine kN ?_ _ | refine kD ?_ | refine kA ?_ _)); exact BK238.out) Try.underlying25 rfl (by kernel_rfl) (.tmp (.tmp (.tmp .nil))))) rfl ?_
   exact ⟨_, _, _, _, by first | rfl | (simp [errW_none, errW_some] <;> rfl) | (simp only [← hji23]; first | rfl | (simp [errW_none, errW_some] <;> rfl)) | (simp [*, errW_none, errW_some] <;> rfl), by (with_reducible repeat (first | apply Kd.Q_alloc | apply Kd.Q_drewN | apply Kd.Q_drew)); exact Kd.Q_mono (Kd.Q_far (p := ⟨gb238, 1, none⟩) (Kd.Q_far (p := ⟨gb238, 0, none⟩) (Kd.Q_types HO_254000.out BK238.out (by decide)) (fun _ hk => hk.2) (.slice Ao9 t242.length co9)) (fun _ hk => hk.2) (.slice Ao13 t245.length co13)) (fun _ hk => ⟨hk.1.1, hk.1.2⟩), by (with_reducible repeat (first | apply rA | apply rN | apply rD)); exact rM (rF (p := ⟨gb238, 1, none⟩) (rF (p := ⟨gb238, 0, none⟩) (rY HO_254001.out BK238.out (by decide)) (fun _ hk => hk.2) (.slice Ao9 t242.length co9)) (fun _ hk => hk.2) (.slice Ao13 t245.length co13)) (fun _ hk => ⟨hk.1.1, hk.1.2⟩), by (with_reducible repeat (first | apply sA | apply sN | apply sD)); exact sM (Kd.S_far (p := ⟨gb238, 1, none⟩) (Kd.S_far (p := ⟨gb238, 0, none⟩) (Kd.S_types HO_9.out BK238.out (by decide)) (fun _ hk => hk.2) (.slice Ao9 t242.length co9)) (fun _ hk => hk.2) (.slice Ao13 t245.length co13)) (fun _ hk => ⟨hk.1.1.1, ⟨hk.1.1.2, hk.1.2⟩⟩), by (with_reducible repeat (first | apply rA | apply rN | apply rD)); exact rM (rF (p := ⟨gb238, 1, none⟩) (rF (p := ⟨gb238, 0, none⟩) (rY HO261.out BK238.out (by decide)) (fun _ hk => hk.2) (.slice Ao9 t242.length co9)) (fun _ hk => hk.2) (.slice Ao13 t245.length co13)) (fun _ hk => ⟨hk.1.1.2, hk.1.2⟩), by repeat (first | (with_reducible first | exact HB.out | apply bA | apply bN | apply bD | refine bS ?_ (IsS61.ge HI241.out) | refine bS ?_ GE238.out | refine bS ?_ GE253.out) | exact HB.out)⟩

/-! ### impl_PermValid: function 10 -/
def impl_PermValid.fine (l : List Int) (i : Nat) : Prop := ∀ j : Nat, j < i → (0 ≤ rd l (j : Int) ∧ rd l (j : Int) < l.length) ∧ ∀ k : Nat, k < j → rd l (k : Int) ≠ rd l (j : Int)
instance (l : List Int) (i : Nat) : Decidable (impl_PermValid.fine l i) := by unfold impl_PermValid.fine; infer_instance
def impl_PermValid.met (l : List Int) (i : Nat) (x : Nat) : Bool := (List.range i).any (fun j => decide (rd l (j : Int) = (x : Int)))
def impl_PermValid.cells (l : List Int) (i : Nat) : Array Value := ((List.range 12).map (fun x => Value.bool (impl_PermValid.met l i x))).toArray
def impl_PermValid.val (l : List Int) : Bool := decide ((1 ≤ l.length ∧ l.length ≤ 12) ∧ impl_PermValid.fine l l.length)
def impl_PermValid.f (l0 : List Int) : Option Bool := some (impl_PermValid.val l0)
theorem impl_PermValid.met_succ (l : List Int) (i x : Nat) : impl_PermValid.met l (i + 1) x = (impl_PermValid.met l i x || decide (rd l (i : Int) = (x : Int))) := by
  unfold impl_PermValid.met; rw [List.range_succ, List.any_append]; simp
theorem impl_PermValid.met_iff {l : List Int} {i x : Nat} : impl_PermValid.met l i x = true ↔ ∃ k : Nat, k < i ∧ rd l (k : Int) = (x : Int) := by
  unfold impl_PermValid.met
  rw [List.any_eq_true]
  constructor
  · rintro ⟨k, hk, h⟩; exact ⟨k, List.mem_range.1 hk, oD h⟩
  rintro ⟨k, hk, h⟩; exact ⟨k, List.mem_range.2 hk, dT h⟩
theorem impl_PermValid.cells_get (l : List Int) (i : Nat) (x : Nat) (h : x < 12) : (impl_PermValid.cells l i)[x]? = some (.bool (impl_PermValid.met l i x)) := by
  unfold impl_PermValid.cells; simp [h]
theorem impl_PermValid.cells_set (l : List Int) (i : Nat) (n : Int) (h0 : 0 ≤ n) (h : n < 12) (hn : rd l (i : Int) = n) : (impl_PermValid.cells l i).setIfInBounds n.toNat (.bool true) = impl_PermValid.cells l (i + 1) := by
  apply Array.ext_getElem?
  intro q
  by_cases hq : q < 12
  · rw [impl_PermValid.cells_get l (i + 1) q hq, impl_PermValid.met_succ, hn, Array.getElem?_setIfInBounds]
    by_cases e : n.toNat = q
    · rw [if_pos e, if_pos (by simp [impl_PermValid.cells]; omega), dT (by omega), Bool.or_true]
    rw [if_neg e, impl_PermValid.cells_get l i q hq, dF (by omega), Bool.or_false]
  have h1 : ∀ i, (impl_PermValid.cells l i).size = 12 := fun i => by simp [impl_PermValid.cells]
  rw [Array.getElem?_eq_none (by rw [Array.size_setIfInBounds, h1]; omega), Array.getElem?_eq_none (by rw [h1]; omega)]
theorem impl_PermValid.val_bad (l : List Int) (i : Int) (h0 : 0 ≤ i) (h1 : i < l.length) (h : ¬ (0 ≤ rd l i ∧ rd l i < l.length ∧ ∀ k : Nat, (k : Int) < i → rd l (k : Int) ≠ rd l i)) : impl_PermValid.val l = false := by
  unfold impl_PermValid.val
  refine dF (fun ⟨_, hf⟩ => h ?_)
  have := hf i.toNat (by omega)
  rw [Int.toNat_of_nonneg h0] at this
  exact ⟨this.1.1, this.1.2, fun k hk => this.2 k (by omega)⟩
set_option maxHeartbeats 8000000 in
set_option maxRecDepth 100000 in
theorem impl_PermValid.wv_long (A0 : Option Addr) (c0 : Nat) (l0 : List Int) (w : World) (hr0 : Kd.C (Kd.int .i64) w A0 l0.length l0) (hc0 : l0.length ≤ c0) (hl1 : 1 ≤ l0.length) (hl2 : l0.length ≤ 12) :
    Calls Try.prog 10 #[.slice A0 l0.length c0] w fun e w' => e = .returned (.bool (impl_PermValid.val l0)) ∧ Below w.heap.size w w' := by
    have HR0 := A0_ hr0; have HC0 := A0_ hc0; clear hr0 hc0
    have b0 : decide ((l0.length : Int) < 1) = false := dF (by omega)
    have b1 : decide (12 < (l0.length : Int)) = false := dF (by omega)
    have HL := A0_ (And.intro hl1 hl2)
    clear hl1 hl2
    have HN : Aside0 (∀ i, (impl_PermValid.cells l0 i).size = 12) := ⟨fun i => by simp [impl_PermValid.cells]⟩
    have HZ : Aside0 (impl_PermValid.cells l0 0 = #[.bool false, .bool false, .bool false, .bool false, .bool false, .bool false, .bool false, .bool false, .bool false, .bool false, .bool false, .bool false]) := ⟨rfl⟩
    go_enter Try.func10, Try.ntmps10
    go_wp2
    go_loopw [17] (fun v17 wr => ∃ (i : Int), v17 = .int .i64 i ∧ Aside0 (0 ≤ i ∧ i ≤ (l0.length : Int)) ∧ Aside0 (impl_PermValid.fine l0 i.toNat) ∧ (∃ m, wr = (w.alloc (.cells (impl_PermValid.cells l0 i.toNat) 54)).drewN m)) (fun i _ => l0.length - (intOf i).toNat)
    case atStart => exact ⟨0, rfl, ⟨by omega⟩, ⟨fun j hj => absurd hj (Nat.not_lt_zero j)⟩, 0, by rw [show (0 : Int).toNat = 0 from rfl, HZ.out]; rfl⟩
    case round =>
      obtain ⟨i, rfl, HI, HF, m, rfl⟩ := hrel; clear b0 b1
      have HB : Aside0 (Below w.heap.size w ((w.alloc (.cells (impl_PermValid.cells l0 i.toNat) 54)).drewN m)) := ⟨by exact bN ((Below.refl _ _).alloc (Nat.le_refl _) _) _⟩
      by_cases hlt : i < (l0.length : Int)
      · have hc : decide (i < (l0.length : Int)) = true := dT hlt
        obtain ⟨ad', e1, hx⟩ := tI HR0.out i HI.out.1 hlt
        cases e1
        replace hx := (HB.out.cell (wL w _ hx)).trans hx
        have p1 := eq_true HI.out.1; have p2 := eq_true hlt; have HT := A0_ hlt; clear hlt
        obtain ⟨n, hn⟩ : ∃ n, n = rd l0 i := ⟨_, rfl⟩
        rw [← hn] at hx
        have HNN := A0_ hn; clear hn
        by_cases c1 : n < 0
        · have d1 : decide (n < 0) = true := dT c1
          clear c1
          have HV : Aside0 (impl_PermValid.val l0 = false) := ⟨impl_PermValid.val_bad l0 i HI.out.1 HT.out (fun h => by have := HNN.out; have := oD d1; have := h.1; omega)⟩
          go_wp2
          go_ret
          exact ⟨by rw [HV.out]; rfl, HB.out⟩
        have d1 : decide (n < 0) = false := dF c1
        by_cases c2 : n ≥ (l0.length : Int)
        · have d2 : decide ((l0.length : Int) ≤ n) = true := dT c2
          clear c1 c2
          have HV : Aside0 (impl_PermValid.val l0 = false) := ⟨impl_PermValid.val_bad l0 i HI.out.1 HT.out (fun h => by have := HNN.out; have := oD d2; have := h.2.1; omega)⟩
          go_wp2
          go_ret
          exact ⟨by rw [HV.out]; rfl, HB.out⟩
        have d2 : decide ((l0.length : Int) ≤ n) = false := dF c2
        have q1 := eq_true (show 0 ≤ n by omega)
        have q2 := eq_true (show n < 12 by have := HL.out; omega)
        have HQ := A0_ (show 0 ≤ n ∧ n < 12 by have := HL.out; omega)
        clear c1 c2
        obtain ⟨b, hb⟩ : ∃ b, b = impl_PermValid.met l0 i.toNat n.toNat := ⟨_, rfl⟩
        have HBB := A0_ hb; clear hb
        have hy : ((w.alloc (.cells (impl_PermValid.cells l0 i.toNat) 54)).drewN m).cell? ⟨w.heap.size, n.toNat, none⟩ = some (.bool b) := by
          rw [HBB.out]
          have hc_ := impl_PermValid.cells_get l0 i.toNat n.toNat (by have := HQ.out; omega)
          show World.cell? (w.alloc (.cells (impl_PermValid.cells l0 i.toNat) 54)) ⟨w.heap.size, n.toNat, none⟩ = _
          simp only [World.cell?, World.alloc, Array.getElem?_push_size, Option.isSome_none]
          exact hc_
        cases b with
        | true =>
          have HV : Aside0 (impl_PermValid.val l0 = false) := ⟨impl_PermValid.val_bad l0 i HI.out.1 HT.out (fun h => by
            obtain ⟨k, hk, e⟩ := impl_PermValid.met_iff.1 HBB.out.symm
            have := HQ.out
            have := HNN.out
            exact h.2.2 k (by omega) (by omega))⟩
          go_wp2
          go_ret
          exact ⟨by rw [HV.out]; rfl, HB.out⟩
        | false =>
          have HI2 := A0_ (show (i + 1).toNat = i.toNat + 1 by have := HI.out; omega)
          have HW := A0_ (show wrap64 (i + 1) = i + 1 by have := HI.out; have := HL.out; have := HT.out; unfold wrap64; omega)
          have HF2 : Aside0 (impl_PermValid.fine l0 (i.toNat + 1)) := ⟨fun j hj => by
            by_cases e : j = i.toNat
            · subst e
              rw [Int.toNat_of_nonneg HI.out.1, ← HNN.out]
              refine ⟨⟨HQ.out.1, by have := of_decide_eq_false d2; omega⟩, fun k hk e => ?_⟩
              have := HBB.out
              rw [impl_PermValid.met_iff.2 ⟨k, hk, by rw [e]; have := HQ.out; omega⟩] at this
              cases this
            exact HF.out j (by omega)⟩
          have HS := A0_ (impl_PermValid.cells_set l0 i.toNat n HQ.out.1 HQ.out.2 (by rw [Int.toNat_of_nonneg HI.out.1, HNN.out]))
          go_wp2
          go_roundw
          case rel => exact ⟨i + 1, by rw [HW.out], ⟨by have := HI.out; have := HT.out; omega⟩, ⟨by rw [HI2.out]; exact HF2.out⟩, m, by
            rw [HI2.out, ← HS.out]
            show ((w.alloc (.cells (impl_PermValid.cells l0 i.toNat) 54)).setCell ⟨w.heap.size, n.toNat, none⟩ (.bool true)).drewN m = _
            rw [World.setCell_alloc_at _ _ _ _ _ rfl]⟩
          case measure => simp only [intOf, HW.out]; have := HI.out; have := HT.out; omega
      have hc : decide (i < (l0.length : Int)) = false := dF hlt
      have HV : Aside0 (impl_PermValid.val l0 = true) := ⟨by
        have e : i.toNat = l0.length := by have := HI.out; omega
        have hF := HF.out; rw [e] at hF
        exact dT ⟨HL.out, hF⟩⟩
      clear hlt
      go_wp2
      go_ret
      exact ⟨by rw [HV.out]; rfl, HB.out⟩
theorem impl_PermValid.calls (A0 : Option Addr) (c0 : Nat) (l0 : List Int) (r : Bool) (w : World) (hr0 : Kd.C (Kd.int .i64) w A0 l0.length l0) (hc0 : l0.length ≤ c0) (h : impl_PermValid.f l0 = some r) :
    Calls Try.prog 10 #[.slice A0 l0.length c0] w fun e w' => e = .returned (.bool r) ∧ Below w.heap.size w w' := by
  obtain rfl := sI h; clear h
  by_cases h1 : 1 ≤ l0.length
  · by_cases h2 : l0.length ≤ 12
    · exact impl_PermValid.wv_long A0 c0 l0 w hr0 hc0 h1 h2
    have HV : Aside0 (impl_PermValid.val l0 = false) := ⟨dF (fun k => h2 k.1.2)⟩
    have b0 : decide ((l0.length : Int) < 1) = false := dF (by omega)
    have b1 : decide (12 < (l0.length : Int)) = true := dT (by omega)
    clear h1 h2 hr0 hc0
    go_enter Try.func10, Try.ntmps10
    go_wp2
    go_ret
    exact ⟨by rw [HV.out]; rfl, (Below.refl _ _).alloc (Nat.le_refl _) _⟩
  have HV : Aside0 (impl_PermValid.val l0 = false) := ⟨dF (fun k => h1 k.1.1)⟩
  have b0 : decide ((l0.length : Int) < 1) = true := dT (by omega)
  clear h1 hr0 hc0
  go_enter Try.func10, Try.ntmps10
  go_wp2
  go_ret
  exact ⟨by rw [HV.out]; rfl, (Below.refl _ _).alloc (Nat.le_refl _) _⟩


/-! ### slices_Max_int_int: function 37 -/
def slices_Max_int_int.go (l : List Int) (m : Int) : Nat → Int
  | 0 => m
  | i + 1 => if slices_Max_int_int.go l m i < rd l (i : Int) then rd l (i : Int) else slices_Max_int_int.go l m i
/-- The greatest of the first i numbers; the first one for i = 0. -/
def slices_Max_int_int.up (l : List Int) (i : Nat) : Int := slices_Max_int_int.go l (rd l 0) i
def slices_Max_int_int.f (l0 : List Int) : Option Int := if 0 < l0.length then some (slices_Max_int_int.up l0 l0.length) else none
set_option maxHeartbeats 8000000 in
set_option maxRecDepth 100000 in
theorem slices_Max_int_int.calls (A0 : Option Addr) (c0 : Nat) (l0 : List Int) (r : Int) (w : World) (hr0 : Kd.C (Kd.int .i64) w A0 l0.length l0) (hc0 : l0.length ≤ c0) (h : slices_Max_int_int.f l0 = some r) :
    Calls Try.prog 37 #[.slice A0 l0.length c0] w fun e w' => e = .returned (.int .i64 r) ∧ Drawn0 w w' := by
  unfold slices_Max_int_int.f at h
  by_cases hl : 0 < l0.length
  · rw [if_pos hl] at h
    obtain rfl := sI h; clear h; have HR0 := A0_ hr0; have HC0 := A0_ hc0; clear hr0 hc0
    have b0 : decide (l0.length < 1) = false := dF (by omega)
    have b1 : decide ((l0.length : Int) < 1) = false := dF (by omega)
    obtain ⟨ad, e0, hx0⟩ := tI HR0.out 0 (by omega) (by omega)
    cases e0
    have hx1 : w.cell? ad = some (.int .i64 (rd l0 0)) := by cases ad; exact hx0
    clear hx0
    have p0 : (0 : Int) < (l0.length : Int) := by omega
    have HM := A0_ (show slices_Max_int_int.up l0 1 = rd l0 0 by show (if rd l0 0 < rd l0 ((0 : Nat) : Int) then rd l0 ((0 : Nat) : Int) else rd l0 0) = rd l0 0; split <;> rfl)
    have HL := A0_ hl
    go_enter Try.func37, Try.ntmps37
    go_wp2
    go_loopw [3, 4] (fun v3 v4 wr => ∃ (i : Int), v3 = .int .i64 (slices_Max_int_int.up l0 i.toNat) ∧ v4 = .int .i64 i ∧ Aside0 (1 ≤ i ∧ i ≤ (l0.length : Int)) ∧ Drawn0 w wr) (fun _ i _ => l0.length - (intOf i).toNat)
    case atStart => exact ⟨1, by rw [show (1 : Int).toNat = 1 from rfl, HM.out], rfl, ⟨by have := HL.out; omega⟩, by repeat (first | exact Drawn0.refl _ | apply Drawn0.step)⟩
    case round =>
      obtain ⟨i, rfl, rfl, HI, ⟨m, rfl⟩⟩ := hrel; clear hx1 p0 b0 b1
      by_cases hlt : i < (l0.length : Int)
      · have hI := HI.out
        have hc : decide (i < (l0.length : Int)) = true := dT hlt
        obtain ⟨ad', e1, hx⟩ := tI HR0.out i (by omega) hlt
        cases e1
        have p : 0 ≤ i := by omega
        have HS := A0_ (show slices_Max_int_int.up l0 (i + 1).toNat = if slices_Max_int_int.up l0 i.toNat < rd l0 i then rd l0 i else slices_Max_int_int.up l0 i.toNat by
          rw [show (i + 1).toNat = i.toNat + 1 by omega]
          show (if slices_Max_int_int.up l0 i.toNat < rd l0 ((i.toNat : Nat) : Int) then rd l0 ((i.toNat : Nat) : Int) else slices_Max_int_int.up l0 i.toNat) = _
          rw [Int.toNat_of_nonneg p])
        have HT := A0_ hlt; clear hI; have p1 := eq_true p; have p2 := eq_true hlt; clear p hlt
        have HW := A0_ (show wrap64 (i + 1) = i + 1 by have := HI.out; have := HT.out; have := HR0.out.2.1; unfold wrap64; omega)
        go_wp2
        go_roundw
        case rel => exact ⟨i + 1, by rw [HS.out], by rw [HW.out], ⟨by have := HI.out; have := HT.out; omega⟩, by repeat (first | exact Drawn0.refl _ | apply Drawn0.step)⟩
        case measure => simp only [intOf, HW.out]; have := HI.out; have := HT.out; omega
      have hc : decide (i < (l0.length : Int)) = false := dF hlt
      have HE := A0_ (show i = (l0.length : Int) by have := HI.out; omega)
      clear hlt
      go_wp2
      go_ret
      exact ⟨by rw [HE.out]; rfl, by repeat (first | exact Drawn0.refl _ | apply Drawn0.step)⟩
  rw [if_neg hl] at h; cases h


/-! ### impl_still: function 34 -/
def impl_still.l0 : Nat → List Int → Int → Int → Option (List Int)
  | 0, _, _, _ => none
  | k + 1, x3, x8, x9 => if x9 < x8 then (if 0 ≤ x9 then (if x9 < (x3.length : Int) then (impl_still.l0 k (x3.set (x9 : Int).toNat x9) x8 (wrap64 (x9 + 1))) else (none)) else (none)) else (some x3)
def impl_still.f (k : Nat) (a0 : Int) : Option (List Int) := if 0 ≤ a0 then (if (a0 : Int).toNat ≤ 35184372088832 then ((some (List.replicate (a0 : Int).toNat 0 : List Int)).bind fun y263 => (impl_still.l0 k y263 (y263.length : Int) 0)) else (none)) else (none)
set_option maxHeartbeats 8000000 in
set_option maxRecDepth 100000 in
theorem impl_still.calls (k : Nat) (a0 : Int) (r : List Int) (w : World) (h : impl_still.f k a0 = some r) :
    Calls Try.prog 34 #[.int .i64 a0] w fun e w' => ∃ v0_ : Value, e = .returned (v0_) ∧ Kd.R (Kd.int .i64) 3 w' w.heap.size (fun _ => True) v0_ r ∧ Below w.heap.size w w' := by
 have HB := A0_ (Below.refl w.heap.size w)
 have H : (if 0 ≤ a0 then (if (a0 : Int).toNat ≤ 35184372088832 then ((some (List.replicate (a0 : Int).toNat 0 : List Int)).bind fun y263 => (impl_still.l0 k y263 (y263.length : Int) 0)) else (none)) else (none)) = some r := h
 clear h
 by_cases c2 : 0 ≤ a0
 ·rw [if_pos c2] at H
  have c2b0 := eq_true c2
  have c2b1 : decide (0 ≤ a0) = true := dT c2
  clear c2
  by_cases c3 : (a0 : Int).toNat ≤ 35184372088832
  ·rw [if_pos c3] at H
   have c3b0 := eq_true c3
   have c3b1 : decide ((a0 : Int).toNat ≤ 35184372088832) = true := dT c3
   clear c3
   obtain ⟨y263, hy263⟩ : ∃ y_ : List Int, y_ = (List.replicate (a0 : Int).toNat 0) := ⟨_, rfl⟩
   replace H : (impl_still.l0 k y263 (y263.length : Int) 0) = some r := by first | (rw [hy263]; with_reducible exact H) | (have H2_ := (Option.bind_some _ _).symm.trans H; rw [hy263]; with_reducible exact H2_) | (have H2_ := (Option.bind_some _ _).symm.trans H; with_reducible exact H2_) | with_reducible exact H | (rw [hy263]; exact H) | exact H
   have Ny263 := A0_ hy263; clear hy263; have H' := A0_ H; clear H
   go_enter Try.func34, Try.ntmps34
   go_wp2_with (first | ((with_reducible refine gD (N := 6) rfl ?_); refine Kd.R_make (Kd.int .i64) _ 3 rfl (N := 6) rfl 23 _ _ rfl a0 rfl rfl Try.underlying23 (.int .i64 0) 8 info3 rfl (by decide) (by omega) 0 (ok := fun _ => True) (okp := fun _ => True) rfl (fun _ hk => hk) trivial (oD (by assumption)) (Nat.le_trans (Nat.mul_le_mul_right _ (oD (by assumption) : a0.toNat ≤ 35184372088832)) (by omega)) (Below.refl _ _) (Nat.le_refl _) ?_; intro v264 w4 ho5 hb hg_ hnew_; clear hg_ hnew_; (first | rw [← Ny263.out] at ho5 | (simp only [Int.reduceToNat] at ho5; rw [← Ny263.out] at ho5)); have HO265 := A0_ (rL ho5 (bZ (zB_ HB))); replace HB := zB HB hb; clear hb ho5; obtain ⟨Ao6, co6, eo6⟩ := rS HO265.out; subst eo6))
   go_loopg [9] k (fun kq v9 w' => ∃ (x3_1 : List Int) (x9_1 : Int), v9 = .int .i64 x9_1 ∧ Aside0 (impl_still.l0 kq x3_1 (y263.length : Int) x9_1 = some r) ∧ Aside0 (kq ≤ k) ∧ Aside0 (Kd.R (Kd.int .i64) 3 w' w.heap.size (fun _ => True) (.slice Ao6 y263.length co6) x3_1) ∧ Aside0 (Below w.heap.size w w'))
   case atStart => exact ⟨(y263), (0), zt, H', ⟨Nat.le_refl _⟩, ⟨zR_ HO265⟩, ⟨zB_ HB⟩⟩
   case round =>
    clear H'; (try clear c2); (try clear c2b0); (try clear c2b1); (try clear p2); (try clear c3); (try clear c3b0); (try clear c3b1); obtain ⟨x3_1, x9_1, rfl, HA, HK1, HO_3, HB⟩ := hrel; have hl3_1 := (rR HO_3.out).1; rw [hl3_1] at HO_3; (try simp only [hl3_1])
    cases gk with
    | zero => exact absurd HA.out (by simp [impl_still.l0])
    | succ k1 =>
     have H := HA.out; clear HA; simp only [impl_still.l0] at H
     by_cases c7 : x9_1 < (y263.length : Int)
     ·rw [if_pos c7] at H
      have c7b0 : decide (x9_1 < (y263.length : Int)) = true := dT c7
      (try simp only [hl3_1] at c7b0); clear c7
      by_cases c8 : 0 ≤ x9_1
      ·rw [if_pos c8] at H
       have c8b0 : decide (0 ≤ x9_1) = true := dT c8
       clear c8
       by_cases c9 : x9_1 < (x3_1.length : Int)
       ·rw [if_pos c9] at H
        have c9b0 : decide (x9_1 < (x3_1.length : Int)) = true := dT c9
        (try simp only [hl3_1] at c9b0); clear c9
        obtain ⟨y266, hy266⟩ : ∃ y_ : List Int, y_ = (x3_1.set (x9_1 : Int).toNat x9_1) := ⟨_, rfl⟩
        replace H : (impl_still.l0 k1 y266 (y263.length : Int) (wrap64 (x9_1 + 1))) = some r := by first | (rw [hy266]; with_reducible exact H) | (have H2_ := (Option.bind_some _ _).symm.trans H; rw [hy266]; with_reducible exact H2_) | (have H2_ := (Option.bind_some _ _).symm.trans H; with_reducible exact H2_) | with_reducible exact H | (rw [hy266]; exact H) | exact H
        have Ny266 := A0_ hy266; clear hy266; have H' := A0_ H; clear H
        have p10 : 0 ≤ (x9_1 : Int) := oD (by assumption)
        have q10 : (x9_1 : Int) < ((x3_1.length : Int) : Int) := oD (by assumption)
        obtain ⟨go10, co10, eo10, gb10, gl10, cl10, HG10⟩ := Kd.R_form HO_3.out (by omega)
        (first | cases eo10 | (injection eo10 with ea_ en_ ec_; (first | subst ea_ | (injection ea_ with ea_; subst ea_)); subst ec_; clear en_))
        have GB10 := A0_ gb10; have GG10 := A0_ HG10; clear gb10 gl10 HG10
        obtain ⟨hx10_0, hf10_0⟩ := Kd.R_celln 0 HO_3.out (x9_1 : Int) p10 q10
        replace p10 := eq_true p10; replace q10 := eq_true q10
        have HP11 := Kd.R_putg HO_3.out (x9_1 : Int) x9_1
        go_wp2_with (first | ((with_reducible refine gS (t := 3) (p := 15) rfl ?_); refine store_event (t := 3) (p := 15) (v := ?vo_w12) (w1 := (wr.setCell ⟨go10, (x9_1 : Int).toNat, none⟩ (.int .i64 x9_1))) ?hg ?ho ?hn ?hr ?_; (case ho => rfl); (case hg => rfl); (case hn => rfl); (case hr => first | (go_simp; done) | (go_simp; rfl)); intro w12 hw; have hg : wr.grownBy w12 (some go10) := (by rw [hw]; exact HP11.2); have hp_ : Kd.R (Kd.int .i64) 3 w12 w.heap.size (fun _ => True) (.slice (some ⟨go10, 0, none⟩) x3_1.length co6) y266 := (by rw [hw, Ny266.out]; exact HP11.1); clear HP11; replace HO_3 := A0_ (hp_); replace HB := A0_ ((by rw [hw]; exact bS (HB.out) GB10.out : Below w.heap.size w w12)); clear hg hw hp_))
        (try simp only [← hl3_1])
        go_roundg k1
        case measure => have := HK1.out; omega
        case rel => exact ⟨(y266), (wrap64 (x9_1 + 1)), zt, H', ⟨by have := HK1.out; omega⟩, ⟨by (try simp only [hl3_1]); (with_reducible repeat (first | apply rA | apply rN | apply rD)); exact HO_3.out⟩, ⟨zB_ HB⟩⟩
       rw [if_neg c9] at H
       exact absurd H (by simp)
      rw [if_neg c8] at H
      exact absurd H (by simp)
     rw [if_neg c7] at H
     have c7b0 : decide (x9_1 < (y263.length : Int)) = false := dF c7
     (try simp only [hl3_1] at c7b0); clear c7; obtain rfl := sI H
     go_wp2
     go_ret
     exact ⟨_, by first | rfl | (simp [*] <;> rfl), zR_ HO_3, zB_ HB⟩
  rw [if_neg c3] at H
  exact absurd H (by simp)
 rw [if_neg c2] at H
 exact absurd H (by simp)

end Go.Proofs.Ytlckmmnpcljhoaa.PFnShift
