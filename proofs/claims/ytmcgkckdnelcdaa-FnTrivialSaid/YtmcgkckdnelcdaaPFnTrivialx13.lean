-- Made by a program of this session (wip/tools) out of the loaded program; not trusted: Lean checks it.
import Derived.Test.YtmcgkckdnelcdaaPFnTrivialx0
import Derived.Test.YtmcgkckdnelcdaaPFnTrivialx2
import Derived.Test.YtmcgkckdnelcdaaPFnTrivialx4
import Derived.Test.YtmcgkckdnelcdaaPFnTrivialx7
import Derived.Test.YtmcgkckdnelcdaaPFnTrivialx10
import Derived.Test.YtmcgkckdnelcdaaPFnTrivialx11
import Derived.Test.YtmcgkckdnelcdaaPFnTrivialx12
-- packed
namespace Go.Proofs.Ytmcgkckdnelcdaa.PFnTrivial
open Go.RowKit Go.Proofs.YtmcgkckdnelcdaaW.PrintWords Go.Proofs.YtmcgkckdnelcdaaW.PrintLast Go.Proofs.YtmcgkckdnelcdaaW.PrintMore
attribute [local go_sem] max2_int min2_int max_two min_two max_three min_three max_four min_four   -- for this text's walks alone
set_option linter.unusedVariables false
set_option linter.unusedSimpArgs false

/-! ### spec_DrawCoverTrivial: function 51 -/
def spec_DrawCoverTrivial.f (k : Nat) (l0 : List Int) : Option (List Int × List Int × Int) := (spec_l6Open.f l0).bind fun bt499 => ((spec_l91Map.f k bt499.1 bt499.2 3).bind fun bt502 => ((spec_l6Rd_pick.f k bt499.1 bt502.2.2 8).bind fun bt510 => (some (bt502.1, bt502.2.1, bt510.1))))
set_option maxHeartbeats 8000000 in
set_option maxRecDepth 100000 in
theorem spec_DrawCoverTrivial.calls (k : Nat) (A0 : Option Addr) (c0 : Nat) (l0 : List Int) (r1 : List Int) (r2 : List Int) (r3 : Int) (w : World) (hr0 : Kd.C (Kd.int .u8) w A0 l0.length l0) (hc0 : l0.length ≤ c0) (h : spec_DrawCoverTrivial.f k l0 = some (r1, r2, r3)) :
    Calls Try.prog 51 #[.slice A0 l0.length c0] w fun e w' => ∃ v0_ v1_ : Value, e = .returned (.tuple #[.agg #[v0_, v1_], .int .i64 r3]) ∧ Kd.Q (Kd.int .i64) 3 w' w.heap.size (fun k_ => some k_ ≠ (v1_ : Value).ownBlock) v0_ r1 ∧ Kd.R (Kd.int .i64) 3 w' w.heap.size (fun k_ => some k_ ≠ (v0_ : Value).ownBlock) v1_ r2 ∧ Below w.heap.size w w' := by
 have hu29 := Try.underlying29; have HR0 := A0_ hr0; have HC0 := A0_ hc0; clear hr0 hc0
 have HB := A0_ (Below.refl w.heap.size w)
 have H : ((spec_l6Open.f l0).bind fun bt499 => ((spec_l91Map.f k bt499.1 bt499.2 3).bind fun bt502 => ((spec_l6Rd_pick.f k bt499.1 bt502.2.2 8).bind fun bt510 => (some (bt502.1, bt502.2.1, bt510.1))))) = some (r1, r2, r3) := h
 clear h; obtain ⟨⟨t499, t500⟩, A2, H⟩ := zbind H; dsimp only at H; obtain ⟨⟨t502, t505, t508⟩, A3, H⟩ := zbind H; dsimp only at H; obtain ⟨⟨t510, t511⟩, A4, H⟩ := zbind H; dsimp only at H; simp only [Option.some.injEq, Prod.mk.injEq] at H; obtain ⟨rfl, rfl, rfl⟩ := H
 go_enter Try.func51, Try.ntmps51
 try go_wp2_with (first | ((with_reducible refine gD (N := 2) rfl ?_); refine zX (N := 2) (cs := #[.slice none 0 0, .slice none 0 0]) (t := 29) ?_; intro gb498 hg w5 hbox hb; have BK498 := A0_ (hbox); have GW498 := zG hg HB; have GE498 := zG hg HB; replace HB := zB HB hb; clear hb hbox hg) | ((with_reducible refine gC (f := 93) rfl ?_); refine zJ (some 7) Try.func93 #[.slice A0 l0.length c0] ?_; (with_reducible refine (spec_l6Open.calls _ _ l0 t499 t500 w _ ?side1 ?side2 ?side3 A2.out).mono ?_); (case side1 => repeat (first | (with_reducible first | exact HB.out | apply bA | apply bN | apply bD | refine bS ?_ GE498.out) | exact HB.out)); (case side2 => exact HR0.out); (case side3 => exact HC0.out); rintro e w6 ⟨g501, rfl, hi, hb, hb2⟩; refine ⟨_, rfl, ?_⟩; replace HB := A0_ (hb); have HI501 := A0_ (hi); have NB501_498 := A0_ (IsS84.ne_blk hi (kB (g := gb498) (o := .cells #[.slice none 0 0, .slice none 0 0] 29 (0, 0)) (zK_ BK498) hb2) (by decide)); have NB498_501 := A0_ (Ne.symm (IsS84.ne_blk hi (kB (g := gb498) (o := .cells #[.slice none 0 0, .slice none 0 0] 29 (0, 0)) (zK_ BK498) hb2) (by decide))); replace BK498 := A0_ (kB (g := gb498) (o := .cells #[.slice none 0 0, .slice none 0 0] 29 (0, 0)) (zK_ BK498) hb2); (try clear hb)) | ((with_reducible refine gC (f := 94) rfl ?_); refine zJ (some 9) Try.func94 #[.pointer (some ⟨g501, 0, none⟩), .int .i64 3] ?_; (with_reducible refine (spec_l91Map.calls k g501 t499 t500 3 t502 t505 t508 w _ ?side1 ?side2 A3.out).mono ?_); (case side1 => repeat (first | (with_reducible first | exact HI501.out | apply IsS84.alloc | apply IsS84.drewN | apply IsS84.drew | apply IsS84.set_1 | refine IsS84.far ?_ NB501_498.out _) | exact HI501.out)); (case side2 => repeat (first | (with_reducible first | exact HB.out | apply bA | apply bN | apply bD | refine bS ?_ (IsS84.ge HI501.out) | refine bS ?_ GE498.out) | exact HB.out)); rintro e w7 ⟨v503, v506, rfl, ho0, ho1, hi, hb, hk⟩; refine ⟨_, rfl, ?_⟩; replace BK498 := A0_ (KeepBut.blk hk (g' := gb498) (o := .cells #[.slice none 0 0, .slice none 0 0] 29 (0, 0)) (zK_ BK498) NB498_501.out (by simp)); have HO504 := A0_ (Kd.Q_lower ho0 (bZ (by repeat (first | (with_reducible first | exact HB.out | apply bA | apply bN | apply bD | refine bS ?_ (IsS84.ge HI501.out) | refine bS ?_ GE498.out) | exact HB.out)))); have HO507 := A0_ (rL ho1 (bZ (by repeat (first | (with_reducible first | exact HB.out | apply bA | apply bN | apply bD | refine bS ?_ (IsS84.ge HI501.out) | refine bS ?_ GE498.out) | exact HB.out)))); replace HB := A0_ (hb); replace HI501 := A0_ (hi); (try clear hb); (try clear ho0); (try clear ho1)) | ((with_reducible refine gD (N := 5) rfl ?_); refine zX (N := 5) (cs := #[.slice none 0 0, .slice none 0 0]) (t := 29) ?_; intro gb509 hg w8 hbox hb; replace HO504 := A0_ (Kd.Q_below (zQ_ HO504) hb); replace HO507 := zR HO507 hb; have BK509 := A0_ (hbox); have GW509 := A0_ ((by rw [hg]; exact (bZ (by repeat (first | (with_reducible first | exact HB.out | apply bA | apply bN | apply bD | refine bS ?_ (IsS84.ge HI501.out) | refine bS ?_ GE498.out) | exact HB.out))) : w.heap.size ≤ gb509)); have GE509 := A0_ ((by rw [hg]; exact (bZ (by repeat (first | (with_reducible first | exact HB.out | apply bA | apply bN | apply bD | refine bS ?_ (IsS84.ge HI501.out) | refine bS ?_ GE498.out) | exact HB.out))) : w.heap.size ≤ gb509)); replace HB := A0_ (bT (by repeat (first | (with_reducible first | exact HB.out | apply bA | apply bN | apply bD | refine bS ?_ (IsS84.ge HI501.out) | refine bS ?_ GE498.out) | exact HB.out)) hb); have NB498_509 := zL hg BK498; have NB509_498 := zM hg BK498; replace BK498 := zK BK498 hb; have NB501_509 := A0_ ((by rw [hg]; exact Nat.ne_of_lt (IsS84.lt (show IsS84 w _ g501 t499 t508 from by repeat (first | (with_reducible first | exact HI501.out | apply IsS84.alloc | apply IsS84.drewN | apply IsS84.drew | apply IsS84.set_1 | refine IsS84.far ?_ NB501_498.out _) | exact HI501.out))) : g501 ≠ gb509)); have NB509_501 := A0_ ((by rw [hg]; exact Nat.ne_of_gt (IsS84.lt (show IsS84 w _ g501 t499 t508 from by repeat (first | (with_reducible first | exact HI501.out | apply IsS84.alloc | apply IsS84.drewN | apply IsS84.drew | apply IsS84.set_1 | refine IsS84.far ?_ NB501_498.out _) | exact HI501.out))) : gb509 ≠ g501)); replace HI501 := A0_ (IsS84.below (by repeat (first | (with_reducible first | exact HI501.out | apply IsS84.alloc | apply IsS84.drewN | apply IsS84.drew | apply IsS84.set_1 | refine IsS84.far ?_ NB501_498.out _) | exact HI501.out)) hb); clear hb hbox hg; obtain ⟨Ao9, co9, eo9, _⟩ := Kd.Q_slice HO504.out; subst eo9; have hnb10 := NB509_498.out; have hnc10 := NB498_509.out; have hnb11 := NB509_501.out; have hnc11 := NB501_509.out; have hcz12_0 := zc0 BK509; have hcz12_1 := zc1 BK509; have hfz12_0 := kF BK509.out 0; have hfz12_1 := kF BK509.out 1; obtain ⟨Ao13, co13, eo13⟩ := rS HO507.out; subst eo13))
 have n0_ : Aside0 (Kd.Q (Kd.int .i64) 3 ((w8.setCell ⟨gb509, 0, none⟩ (.slice Ao9 t502.length co9)).setCell ⟨gb509, 1, none⟩ (.slice Ao13 t505.length co13)) w.heap.size (fun k_ => some k_ ≠ (.slice Ao13 t505.length co13 : Value).ownBlock) (.slice Ao9 t502.length co9) t502) := ⟨by (with_reducible repeat (first | apply Kd.Q_alloc | apply Kd.Q_drewN | apply Kd.Q_drew)); exact Kd.Q_mono (Kd.Q_far (p := ⟨gb509, 1, none⟩) (Kd.Q_far (p := ⟨gb509, 0, none⟩) (Kd.Q_types HO504.out BK509.out (by decide)) (fun _ hk => hk.2) (.slice Ao9 t502.length co9)) (fun _ hk => hk.2) (.slice Ao13 t505.length co13)) (fun _ hk => hk.1)⟩
 have n1_ : Aside0 (Kd.R (Kd.int .i64) 3 ((w8.setCell ⟨gb509, 0, none⟩ (.slice Ao9 t502.length co9)).setCell ⟨gb509, 1, none⟩ (.slice Ao13 t505.length co13)) w.heap.size (fun k_ => some k_ ≠ (.slice Ao9 t502.length co9 : Value).ownBlock) (.slice Ao13 t505.length co13) t505) := ⟨zF HO507 BK509 (.slice Ao9 t502.length co9) (.slice Ao13 t505.length co13) 0 1⟩
 have n2_ : Aside0 (((w8.setCell ⟨gb509, 0, none⟩ (.slice Ao9 t502.length co9)).setCell ⟨gb509, 1, none⟩ (.slice Ao13 t505.length co13)).heap[gb498]? = some (.cells #[.slice none 0 0, .slice none 0 0] 29 (0, 0))) := ⟨by (with_reducible repeat (first | refine kN ?_ _ | refine kD ?_ | refine kA ?_ _)); refine blk_far ?_ NB498_509.out _; (with_reducible repeat (first | refine kN ?_ _ | refine kD ?_ | refine kA ?_ _)); refine blk_far ?_ NB498_509.out _; (with_reducible repeat (first | refine kN ?_ _ | refine kD ?_ | refine kA ?_ _)); exact BK498.out⟩
 have n3_ : Aside0 (((w8.setCell ⟨gb509, 0, none⟩ (.slice Ao9 t502.length co9)).setCell ⟨gb509, 1, none⟩ (.slice Ao13 t505.length co13)).heap[gb509]? = some (.cells #[.slice Ao9 t502.length co9, .slice Ao13 t505.length co13] 29 (0, 0))) := ⟨by (with_reducible repeat (first | refine kN ?_ _ | refine kD ?_ | refine kA ?_ _)); refine blk_put (cs := #[.slice Ao9 t502.length co9, .slice none 0 0]) ?_ 1 _ rfl; (with_reducible repeat (first | refine kN ?_ _ | refine kD ?_ | refine kA ?_ _)); refine blk_put (cs := #[.slice none 0 0, .slice none 0 0]) ?_ 0 _ rfl; (with_reducible repeat (first | refine kN ?_ _ | refine kD ?_ | refine kA ?_ _)); exact BK509.out⟩
 have n4_ : Aside0 (IsS84 w ((w8.setCell ⟨gb509, 0, none⟩ (.slice Ao9 t502.length co9)).setCell ⟨gb509, 1, none⟩ (.slice Ao13 t505.length co13)) g501 t499 t508) := ⟨by repeat (first | (with_reducible first | exact HI501.out | apply IsS84.alloc | apply IsS84.drewN | apply IsS84.drew | apply IsS84.set_1 | refine IsS84.far ?_ NB501_498.out _ | refine IsS84.far ?_ NB501_509.out _) | exact HI501.out)⟩
 have n5_ : Aside0 (Below w.heap.size w ((w8.setCell ⟨gb509, 0, none⟩ (.slice Ao9 t502.length co9)).setCell ⟨gb509, 1, none⟩ (.slice Ao13 t505.length co13))) := ⟨by repeat (first | (with_reducible first | exact HB.out | apply bA | apply bN | apply bD | refine bS ?_ (IsS84.ge HI501.out) | refine bS ?_ GE498.out | refine bS ?_ GE509.out) | exact HB.out)⟩
 (try clear HO504); (try clear HO507); (try clear BK498); (try clear BK509); (try clear HI501); (try clear HB)
 generalize ((w8.setCell ⟨gb509, 0, none⟩ (.slice Ao9 t502.length co9)).setCell ⟨gb509, 1, none⟩ (.slice Ao13 t505.length co13)) = w14 at n0_ n1_ n2_ n3_ n4_ n5_ ⊢
 have HO504 := n0_; have HO507 := n1_; have BK498 := n2_; have BK509 := n3_; have HI501 := n4_; have HB := n5_; clear n0_ n1_ n2_ n3_ n4_ n5_
 replace HO504 := A0_ (Kd.Q_drew HO504.out)
 replace HO507 := A0_ (rD HO507.out)
 replace BK498 := A0_ (kD BK498.out)
 replace BK509 := A0_ (kD BK509.out)
 replace HI501 := A0_ (IsS84.drew HI501.out)
 replace HB := A0_ (bD HB.out)
 refine start_ (n := 5) (S := fun w' => w'.cell? ⟨gb509, 0, none⟩ = some (.slice Ao9 t502.length co9) ∧ w'.cell? ⟨gb509, 1, none⟩ = some (.slice Ao13 t505.length co13)) (ds := []) #[false, false, false, false, false] (by kernel_rfl) rfl rfl ⟨(kC BK509.out 0).trans rfl, (kC BK509.out 1).trans rfl⟩ (fun hHeld => ?_)
 generalize w14.drew = w15 at HO504 HO507 BK498 BK509 HI501 HB hHeld ⊢
 refine pure_ (i := 1) (N := some 11) (v := ?_) (a' := ?_) #[false, true, false, false, false] rfl rfl (by kernel_rfl) (fun _ _ _ h => h) (Or.inl ⟨by rfl, ?_⟩) ?_ ?_
 rotate_left
 ·intro w'
  go_simp
  with_reducible rfl
 rotate_left
 ·simp only [Act.put, List.setIfInBounds_toArray, List.set_cons_zero, List.set_cons_succ, i64_w, i32_w]
  rfl
 refine take_ (i := 0) (N := some 10) (v := ?_) (a' := ?_) #[true, true, false, false, false] rfl rfl (by kernel_rfl) (fun _ _ _ h => h) (Or.inl ⟨by rfl, ?_⟩) hHeld ?_ ?_
 rotate_left
 ·rintro w' ⟨s0, s1⟩
  go_simp
  with_reducible rfl
 rotate_left
 ·simp only [Act.put, List.setIfInBounds_toArray, List.set_cons_zero, List.set_cons_succ, i64_w, i32_w]
  rfl
 refine one_ (i := 2) (N := some 12) #[true, true, true, false, false] rfl rfl (by kernel_rfl) (by decide) (fun K hK => ?_)
 refine goes_ Try.func95 (by kernel_rfl) rfl #[.pointer (some ⟨g501, 0, none⟩), .int .i64 8] (by rfl) rfl rfl (by (try simp only [List.map_toArray, List.map_cons, List.map_nil]); first | done | rfl | (simp only [List.length_drop, List.length_take]; rfl)) ?_
 with_reducible refine (spec_l6Rd_pick.calls k g501 t499 t508 8 t510 t511 w _ ?side1 ?side2 A4.out).mono ?_
 (case side1 => repeat (first | (with_reducible first | exact HI501.out | apply IsS84.alloc | apply IsS84.drewN | apply IsS84.drew | apply IsS84.set_1 | refine IsS84.far ?_ NB501_498.out _ | refine IsS84.far ?_ NB501_509.out _) | exact HI501.out))
 (case side2 => repeat (first | (with_reducible first | exact HB.out | apply bA | apply bN | apply bD | refine bS ?_ (IsS84.ge HI501.out) | refine bS ?_ GE498.out | refine bS ?_ GE509.out) | exact HB.out))
 rintro e w16 ⟨rfl, hi, hb, hk⟩
 refine ⟨_, rfl, ?_⟩
 replace BK498 := A0_ (KeepBut.blk hk (g' := gb498) (o := .cells #[.slice none 0 0, .slice none 0 0] 29 (0, 0)) (zK_ BK498) NB498_501.out (by simp))
 replace HO504 := A0_ (Kd.Q_mono (Kd.Q_keep (IsS84.apartQ (show IsS84 w _ g501 t499 t508 from by repeat (first | (with_reducible first | exact HI501.out | apply IsS84.alloc | apply IsS84.drewN | apply IsS84.drew | apply IsS84.set_1 | refine IsS84.far ?_ NB501_498.out _ | refine IsS84.far ?_ NB501_509.out _) | exact HI501.out)) (zQ_ HO504) (by decide)) hk (fun _ h => h.2)) (fun _ h => h.1))
 replace HO507 := A0_ (rM (Kd.R_keep (IsS84.apart (show IsS84 w _ g501 t499 t508 from by repeat (first | (with_reducible first | exact HI501.out | apply IsS84.alloc | apply IsS84.drewN | apply IsS84.drew | apply IsS84.set_1 | refine IsS84.far ?_ NB501_498.out _ | refine IsS84.far ?_ NB501_509.out _) | exact HI501.out)) (zR_ HO507) (by decide)) hk (fun _ h => h.2)) (fun _ h => h.1))
 replace BK509 := A0_ (KeepBut.blk hk (g' := gb509) (o := .cells #[.slice Ao9 t502.length co9, .slice Ao13 t505.length co13] 29 (0, 0)) (zK_ BK509) NB509_501.out (by simp))
 replace HB := A0_ (hb)
 replace HI501 := A0_ (hi)
 (try clear hb); (try clear hb2); (try clear hk); (try clear hi)
 refine hK.out _ _ ⟨(kC BK509.out 0).trans rfl, (kC BK509.out 1).trans rfl⟩ (fun hHeld => ?_)
 clear hK K
 refine norm_ (a' := ?_) ?_ ?_
 rotate_left
 ·show Act.put _ (some 12) _ = _
  simp only [Act.put, List.setIfInBounds_toArray, List.set_cons_zero, List.set_cons_succ, i64_w, i32_w]
  rfl
 refine one_ (i := 3) (N := none) #[true, true, true, true, false] rfl rfl (by kernel_rfl) (by decide) (fun K hK => ?_)
 have hs17 : w16.cell? ⟨gb498, 0, none⟩ = some (.slice none 0 0) := (kC BK498.out 0).trans rfl
 have hfs17 := kF BK498.out 0; have hns17_1 := NB509_498.out; have hms17_1 := NB498_509.out
 have hs18 : w16.cell? ⟨gb498, 1, none⟩ = some (.slice none 0 0) := (kC BK498.out 1).trans rfl
 have hfs18 := kF BK498.out 1; have hns18_1 := NB509_498.out; have hms18_1 := NB498_509.out
 refine skip_ (w1 := ?_) (by rfl) rfl ?_ ?_
 rotate_left
 ·go_simp
  rfl
 refine hK.out _ _ ⟨((cell_far (p := ⟨gb498, _, none⟩) NB509_498.out _).trans (((cell_far (p := ⟨gb498, _, none⟩) NB509_498.out _).trans (hHeld.1)))), ((cell_far (p := ⟨gb498, _, none⟩) NB509_498.out _).trans (((cell_far (p := ⟨gb498, _, none⟩) NB509_498.out _).trans (hHeld.2))))⟩ (fun hHeld => ?_)
 clear hK K
 refine pure_ (i := 4) (N := some 3) (v := ?_) (a' := ?_) #[true, true, true, true, true] rfl rfl (by kernel_rfl) (fun _ _ _ h => h) (Or.inl ⟨by rfl, ?_⟩) ?_ ?_
 rotate_left
 ·intro w'
  go_simp
  with_reducible rfl
 rotate_left
 ·simp only [Act.put, List.setIfInBounds_toArray, List.set_cons_zero, List.set_cons_succ, i64_w, i32_w]
  rfl
 refine done_ (by kernel_rfl) ?_
 try go_wp2
 refine bodyPost_ret (results_ct rfl _ _ gb498 29 #[.slice Ao9 t502.length co9, .slice Ao13 t505.length co13] (0, 0) _ rfl (by (with_reducible repeat (first | refine kN ?_ _ | refine kD ?_ | refine kA ?_ _)); refine blk_put (cs := #[.slice Ao9 t502.length co9, .slice none 0 0]) ?_ 1 _ rfl; (with_reducible repeat (first | refine kN ?_ _ | refine kD ?_ | refine kA ?_ _)); refine blk_put (cs := #[.slice none 0 0, .slice none 0 0]) ?_ 0 _ rfl; (with_reducible repeat (first | refine kN ?_ _ | refine kD ?_ | refine kA ?_ _)); exact BK498.out) Try.underlying29 rfl (by kernel_rfl)) rfl ?_
 exact ⟨_, _, by first | rfl | (simp [*] <;> rfl), by (with_reducible repeat (first | apply Kd.Q_alloc | apply Kd.Q_drewN | apply Kd.Q_drew)); exact Kd.Q_mono (Kd.Q_far (p := ⟨gb498, 1, none⟩) (Kd.Q_far (p := ⟨gb498, 0, none⟩) (Kd.Q_types HO504.out BK498.out (by decide)) (fun _ hk => hk.2) (.slice Ao9 t502.length co9)) (fun _ hk => hk.2) (.slice Ao13 t505.length co13)) (fun _ hk => hk.1), zF HO507 BK498 (.slice Ao9 t502.length co9) (.slice Ao13 t505.length co13) 0 1, by repeat (first | (with_reducible first | exact HB.out | apply bA | apply bN | apply bD | refine bS ?_ (IsS84.ge HI501.out) | refine bS ?_ GE498.out | refine bS ?_ GE509.out) | exact HB.out)⟩

/-! ### laws_sameInts: function 53 -/
def laws_sameInts.l0 : Nat → List Int → List Int → Int → Option (Bool)
  | 0, _, _, _ => none
  | k + 1, x0, x1, x5 => if x5 < (x0.length : Int) then (if 0 ≤ x5 then (if x5 < (x1.length : Int) then (if (rd x0 x5) = (rd x1 x5) then (laws_sameInts.l0 k x0 x1 (wrap64 (x5 + 1))) else (some false)) else (none)) else (none)) else (some true)
def laws_sameInts.f (k : Nat) (l0 : List Int) (l1 : List Int) : Option (Bool) := if (l0.length : Int) = (l1.length : Int) then (laws_sameInts.l0 k l0 l1 0) else (some false)
set_option maxHeartbeats 8000000 in
set_option maxRecDepth 100000 in
theorem laws_sameInts.calls (k : Nat) (A0 : Option Addr) (c0 : Nat) (l0 : List Int) (A1 : Option Addr) (c1 : Nat) (l1 : List Int) (r : Bool) (w : World) (hr0 : Kd.C (Kd.int .i64) w A0 l0.length l0) (hc0 : l0.length ≤ c0) (hr1 : Kd.C (Kd.int .i64) w A1 l1.length l1) (hc1 : l1.length ≤ c1) (h : laws_sameInts.f k l0 l1 = some r) :
    Calls Try.prog 53 #[.slice A0 l0.length c0, .slice A1 l1.length c1] w fun e w' => e = .returned (.bool r) ∧ Drawn0 w w' := by
 have HR0 := A0_ hr0; have HC0 := A0_ hc0; clear hr0 hc0; have HR1 := A0_ hr1; have HC1 := A0_ hc1; clear hr1 hc1
 have H : (if (l0.length : Int) = (l1.length : Int) then (laws_sameInts.l0 k l0 l1 0) else (some false)) = some r := h
 clear h
 by_cases c3 : (l0.length : Int) = (l1.length : Int)
 ·rw [if_pos c3] at H
  have c3b0 : ((l0.length : Int) == (l1.length : Int)) = true := beq_iff_eq.mpr c3
  have c3b1 : ((l0.length : Int) != (l1.length : Int)) = false := bne_eq_false_iff_eq.mpr c3
  have c3b2 : (l0.length == l1.length) = true := by first | simpa using c3 | (simp at c3 ⊢; omega)
  clear c3; have H' := A0_ H; clear H
  go_enter Try.func53, Try.ntmps53
  go_wp2
  repeat (go_quiet (fail); try go_wp2)
  go_loopg [5] k (fun kq v5 w' => ∃ (x5_1 : Int), v5 = .int .i64 x5_1 ∧ Aside0 (laws_sameInts.l0 kq l0 l1 x5_1 = some r) ∧ Aside0 (kq ≤ k) ∧ Drawn0 w w')
  case atStart => exact ⟨(0), zt, H', ⟨Nat.le_refl _⟩, by repeat (first | exact Drawn0.refl _ | apply Drawn0.step)⟩
  case round =>
   clear H'; (try clear c1); (try clear p2); (try clear c3); (try clear c3b0); (try clear c3b1); (try clear c3b2); obtain ⟨x5_1, rfl, HA, HK1, ⟨m1, rfl⟩⟩ := hrel
   cases gk with
   | zero => exact absurd HA.out (by simp [laws_sameInts.l0])
   | succ k1 =>
    have H := HA.out; clear HA; simp only [laws_sameInts.l0] at H
    by_cases c4 : x5_1 < (l0.length : Int)
    ·rw [if_pos c4] at H
     have c4b0 := dT c4; clear c4
     by_cases c5 : 0 ≤ x5_1
     ·rw [if_pos c5] at H
      have c5b0 := dT c5; clear c5
      by_cases c6 : x5_1 < (l1.length : Int)
      ·rw [if_pos c6] at H
       have c6b0 := dT c6; clear c6
       by_cases c7 : (rd l0 x5_1) = (rd l1 x5_1)
       ·rw [if_pos c7] at H
        have c7b0 : ((rd l0 x5_1) == (rd l1 x5_1)) = true := beq_iff_eq.mpr c7
        have c7b1 : ((rd l0 x5_1) != (rd l1 x5_1)) = false := bne_eq_false_iff_eq.mpr c7
        clear c7; have H' := A0_ H; clear H
        have p512 : 0 ≤ (x5_1 : Int) := zd
        have q512 : x5_1 < (l0.length : Int) := zd
        obtain ⟨ad512, e512, hx512_0⟩ := tI HR0.out x5_1 p512 q512
        cases e512
        replace p512 := eq_true p512; replace q512 := eq_true q512
        have p513 : 0 ≤ (x5_1 : Int) := zd
        have q513 : x5_1 < (l1.length : Int) := zd
        obtain ⟨ad513, e513, hx513_0⟩ := tI HR1.out x5_1 p513 q513
        cases e513
        replace p513 := eq_true p513; replace q513 := eq_true q513
        go_wp2
        repeat (go_quiet (fail); try go_wp2)
        go_roundg k1
        case measure => have := HK1.out; omega
        case rel => exact ⟨(wrap64 (x5_1 + 1)), zt, H', ⟨by have := HK1.out; omega⟩, by repeat (first | exact Drawn0.refl _ | apply Drawn0.step)⟩
       rw [if_neg c7] at H
       have c7b0 : ((rd l0 x5_1) == (rd l1 x5_1)) = false := beq_eq_false_iff_ne.mpr c7
       have c7b1 : ((rd l0 x5_1) != (rd l1 x5_1)) = true := bne_iff_ne.mpr c7
       obtain rfl := sI H
       have p512 : 0 ≤ (x5_1 : Int) := zd
       have q512 : x5_1 < (l0.length : Int) := zd
       obtain ⟨ad512, e512, hx512_0⟩ := tI HR0.out x5_1 p512 q512
       cases e512
       replace p512 := eq_true p512; replace q512 := eq_true q512
       have p513 : 0 ≤ (x5_1 : Int) := zd
       have q513 : x5_1 < (l1.length : Int) := zd
       obtain ⟨ad513, e513, hx513_0⟩ := tI HR1.out x5_1 p513 q513
       cases e513
       replace p513 := eq_true p513; replace q513 := eq_true q513
       go_wp2
       repeat (go_quiet (fail); try go_wp2)
       go_ret
       exact ⟨by first | rfl | (simp; done) | (simp [*]; done), by repeat (first | exact Drawn0.refl _ | apply Drawn0.step)⟩
      rw [if_neg c6] at H
      exact absurd H (by simp)
     rw [if_neg c5] at H
     exact absurd H (by simp)
    rw [if_neg c4] at H; have c4b0 := dF c4; clear c4; obtain rfl := sI H
    go_wp2
    repeat (go_quiet (fail); try go_wp2)
    go_ret
    exact ⟨by first | rfl | (simp; done) | (simp [*]; done), by repeat (first | exact Drawn0.refl _ | apply Drawn0.step)⟩
 rw [if_neg c3] at H
 have c3b0 : ((l0.length : Int) == (l1.length : Int)) = false := beq_eq_false_iff_ne.mpr c3
 have c3b1 : ((l0.length : Int) != (l1.length : Int)) = true := bne_iff_ne.mpr c3
 have c3b2 : (l0.length == l1.length) = false := by first | simpa using c3 | (simp at c3 ⊢; omega)
 obtain rfl := sI H
 go_enter Try.func53, Try.ntmps53
 go_wp2
 repeat (go_quiet (fail); try go_wp2)
 go_ret
 exact ⟨by first | rfl | (simp; done) | (simp [*]; done), by repeat (first | exact Drawn0.refl _ | apply Drawn0.step)⟩

/-! ### laws_sameLists: function 52 -/
def laws_sameLists.l0 : Nat → List (List Int) → List (List Int) → Int → Option (Bool)
  | 0, _, _, _ => none
  | k + 1, x0, x1, x5 => if x5 < (x0.length : Int) then (if 0 ≤ x5 then (if x5 < (x1.length : Int) then ((laws_sameInts.f k (rd_L1 x0 x5) (rd_L1 x1 x5)).bind fun t516 => (if t516 = true then (laws_sameLists.l0 k x0 x1 (wrap64 (x5 + 1))) else (some false))) else (none)) else (none)) else (some true)
def laws_sameLists.f (k : Nat) (l0 : List (List Int)) (l1 : List (List Int)) : Option (Bool) := if (l0.length : Int) = (l1.length : Int) then (laws_sameLists.l0 k l0 l1 0) else (some false)
set_option maxHeartbeats 8000000 in
set_option maxRecDepth 100000 in
theorem laws_sameLists.calls (k : Nat) (A0 : Option Addr) (c0 : Nat) (l0 : List (List Int)) (A1 : Option Addr) (c1 : Nat) (l1 : List (List Int)) (r : Bool) (w : World) (hr0 : Kd.C (Kd.slice 3 (Kd.int .i64)) w A0 l0.length l0) (hc0 : l0.length ≤ c0) (hr1 : Kd.C (Kd.slice 3 (Kd.int .i64)) w A1 l1.length l1) (hc1 : l1.length ≤ c1) (h : laws_sameLists.f k l0 l1 = some r) :
    Calls Try.prog 52 #[.slice A0 l0.length c0, .slice A1 l1.length c1] w fun e w' => e = .returned (.bool r) ∧ Drawn0 w w' := by
 have HR0 := A0_ hr0; have HC0 := A0_ hc0; clear hr0 hc0; have HR1 := A0_ hr1; have HC1 := A0_ hc1; clear hr1 hc1
 have H : (if (l0.length : Int) = (l1.length : Int) then (laws_sameLists.l0 k l0 l1 0) else (some false)) = some r := h
 clear h
 by_cases c3 : (l0.length : Int) = (l1.length : Int)
 ·rw [if_pos c3] at H
  have c3b0 : ((l0.length : Int) == (l1.length : Int)) = true := beq_iff_eq.mpr c3
  have c3b1 : ((l0.length : Int) != (l1.length : Int)) = false := bne_eq_false_iff_eq.mpr c3
  have c3b2 : (l0.length == l1.length) = true := by first | simpa using c3 | (simp at c3 ⊢; omega)
  clear c3; have H' := A0_ H; clear H
  go_enter Try.func52, Try.ntmps52
  go_wp2
  repeat (go_quiet (fail); try go_wp2)
  go_loopg [5] k (fun kq v5 w' => ∃ (x5_1 : Int), v5 = .int .i64 x5_1 ∧ Aside0 (laws_sameLists.l0 kq l0 l1 x5_1 = some r) ∧ Aside0 (kq ≤ k) ∧ Drawn0 w w')
  case atStart => exact ⟨(0), zt, H', ⟨Nat.le_refl _⟩, by repeat (first | exact Drawn0.refl _ | apply Drawn0.step)⟩
  case round =>
   clear H'; (try clear c1); (try clear p2); (try clear c3); (try clear c3b0); (try clear c3b1); (try clear c3b2); obtain ⟨x5_1, rfl, HA, HK1, ⟨m1, rfl⟩⟩ := hrel
   cases gk with
   | zero => exact absurd HA.out (by simp [laws_sameLists.l0])
   | succ k1 =>
    have H := HA.out; clear HA; simp only [laws_sameLists.l0] at H
    by_cases c4 : x5_1 < (l0.length : Int)
    ·rw [if_pos c4] at H
     have c4b0 := dT c4; clear c4
     by_cases c5 : 0 ≤ x5_1
     ·rw [if_pos c5] at H
      have c5b0 := dT c5; clear c5
      by_cases c6 : x5_1 < (l1.length : Int)
      ·rw [if_pos c6] at H
       have c6b0 := dT c6; clear c6; obtain ⟨t516, A7, H⟩ := zbind H
       by_cases c8 : t516 = true
       ·subst c8
        rw [if_pos rfl] at H; have H' := A0_ H; clear H
        have p514 : 0 ≤ (x5_1 : Int) := zd
        have q514 : x5_1 < (l0.length : Int) := zd
        obtain ⟨ad514, A514_0, c514_0, e514, hx514_0, hl514_0, hi514_0⟩ := at_L1 HR0.out x5_1 p514 q514
        cases e514
        have HR514_0 := A0_ hi514_0; have HC514_0 := A0_ hl514_0; clear hi514_0 hl514_0; replace p514 := eq_true p514; replace q514 := eq_true q514
        have p515 : 0 ≤ (x5_1 : Int) := zd
        have q515 : x5_1 < (l1.length : Int) := zd
        obtain ⟨ad515, A515_0, c515_0, e515, hx515_0, hl515_0, hi515_0⟩ := at_L1 HR1.out x5_1 p515 q515
        cases e515
        have HR515_0 := A0_ hi515_0; have HC515_0 := A0_ hl515_0; clear hi515_0 hl515_0; replace p515 := eq_true p515; replace q515 := eq_true q515
        go_wp2_with (first | (go_at_call 53; (with_reducible refine (laws_sameInts.calls k1 _ _ (rd_L1 l0 x5_1) _ _ (rd_L1 l1 x5_1) true _ ?side1 ?side2 ?side3 ?side4 A7.out).mono ?_); (case side1 => repeat (first | exact HR514_0.out | (with_reducible refine cA ?_ _) | (with_reducible refine cN ?_ _) | (with_reducible refine cD ?_))); (case side2 => exact HC514_0.out); (case side3 => repeat (first | exact HR515_0.out | (with_reducible refine cA ?_ _) | (with_reducible refine cN ?_ _) | (with_reducible refine cD ?_))); (case side4 => exact HC515_0.out); rintro e w' ⟨rfl, ⟨nd, rfl⟩⟩; (try first | exact ⟨rfl, _, World.drewN_drewN _ _ _⟩ | exact ⟨rfl, _, Eq.trans (World.drewN_drewN _ _ _) (congrArg (World.drewN _) (Nat.add_assoc _ _ _))⟩)))
        repeat (go_quiet (first | (go_at_call 53; (with_reducible refine (laws_sameInts.calls k1 _ _ (rd_L1 l0 x5_1) _ _ (rd_L1 l1 x5_1) true _ ?side1 ?side2 ?side3 ?side4 A7.out).mono ?_); (case side1 => repeat (first | exact HR514_0.out | (with_reducible refine cA ?_ _) | (with_reducible refine cN ?_ _) | (with_reducible refine cD ?_))); (case side2 => exact HC514_0.out); (case side3 => repeat (first | exact HR515_0.out | (with_reducible refine cA ?_ _) | (with_reducible refine cN ?_ _) | (with_reducible refine cD ?_))); (case side4 => exact HC515_0.out); rintro e w' ⟨rfl, ⟨nd, rfl⟩⟩; (try first | exact ⟨rfl, _, World.drewN_drewN _ _ _⟩ | exact ⟨rfl, _, Eq.trans (World.drewN_drewN _ _ _) (congrArg (World.drewN _) (Nat.add_assoc _ _ _))⟩))); try go_wp2_with (first | (go_at_call 53; (with_reducible refine (laws_sameInts.calls k1 _ _ (rd_L1 l0 x5_1) _ _ (rd_L1 l1 x5_1) true _ ?side1 ?side2 ?side3 ?side4 A7.out).mono ?_); (case side1 => repeat (first | exact HR514_0.out | (with_reducible refine cA ?_ _) | (with_reducible refine cN ?_ _) | (with_reducible refine cD ?_))); (case side2 => exact HC514_0.out); (case side3 => repeat (first | exact HR515_0.out | (with_reducible refine cA ?_ _) | (with_reducible refine cN ?_ _) | (with_reducible refine cD ?_))); (case side4 => exact HC515_0.out); rintro e w' ⟨rfl, ⟨nd, rfl⟩⟩; (try first | exact ⟨rfl, _, World.drewN_drewN _ _ _⟩ | exact ⟨rfl, _, Eq.trans (World.drewN_drewN _ _ _) (congrArg (World.drewN _) (Nat.add_assoc _ _ _))⟩))))
        go_roundg k1
        case measure => have := HK1.out; omega
        case rel => exact ⟨(wrap64 (x5_1 + 1)), zt, H', ⟨by have := HK1.out; omega⟩, by repeat (first | exact Drawn0.refl _ | apply Drawn0.step)⟩
       replace c8 := Bool.eq_false_iff.mpr c8; subst c8
       rw [if_neg (show ¬ (false = true) by decide)] at H
       obtain rfl := sI H
       have p514 : 0 ≤ (x5_1 : Int) := zd
       have q514 : x5_1 < (l0.length : Int) := zd
       obtain ⟨ad514, A514_0, c514_0, e514, hx514_0, hl514_0, hi514_0⟩ := at_L1 HR0.out x5_1 p514 q514
       cases e514
       have HR514_0 := A0_ hi514_0; have HC514_0 := A0_ hl514_0; clear hi514_0 hl514_0; replace p514 := eq_true p514; replace q514 := eq_true q514
       have p515 : 0 ≤ (x5_1 : Int) := zd
       have q515 : x5_1 < (l1.length : Int) := zd
       obtain ⟨ad515, A515_0, c515_0, e515, hx515_0, hl515_0, hi515_0⟩ := at_L1 HR1.out x5_1 p515 q515
       cases e515
       have HR515_0 := A0_ hi515_0; have HC515_0 := A0_ hl515_0; clear hi515_0 hl515_0; replace p515 := eq_true p515; replace q515 := eq_true q515
       go_wp2_with (first | (go_at_call 53; (with_reducible refine (laws_sameInts.calls k1 _ _ (rd_L1 l0 x5_1) _ _ (rd_L1 l1 x5_1) false _ ?side1 ?side2 ?side3 ?side4 A7.out).mono ?_); (case side1 => repeat (first | exact HR514_0.out | (with_reducible refine cA ?_ _) | (with_reducible refine cN ?_ _) | (with_reducible refine cD ?_))); (case side2 => exact HC514_0.out); (case side3 => repeat (first | exact HR515_0.out | (with_reducible refine cA ?_ _) | (with_reducible refine cN ?_ _) | (with_reducible refine cD ?_))); (case side4 => exact HC515_0.out); rintro e w' ⟨rfl, ⟨nd, rfl⟩⟩; (try first | exact ⟨rfl, _, World.drewN_drewN _ _ _⟩ | exact ⟨rfl, _, Eq.trans (World.drewN_drewN _ _ _) (congrArg (World.drewN _) (Nat.add_assoc _ _ _))⟩)))
       repeat (go_quiet (first | (go_at_call 53; (with_reducible refine (laws_sameInts.calls k1 _ _ (rd_L1 l0 x5_1) _ _ (rd_L1 l1 x5_1) false _ ?side1 ?side2 ?side3 ?side4 A7.out).mono ?_); (case side1 => repeat (first | exact HR514_0.out | (with_reducible refine cA ?_ _) | (with_reducible refine cN ?_ _) | (with_reducible refine cD ?_))); (case side2 => exact HC514_0.out); (case side3 => repeat (first | exact HR515_0.out | (with_reducible refine cA ?_ _) | (with_reducible refine cN ?_ _) | (with_reducible refine cD ?_))); (case side4 => exact HC515_0.out); rintro e w' ⟨rfl, ⟨nd, rfl⟩⟩; (try first | exact ⟨rfl, _, World.drewN_drewN _ _ _⟩ | exact ⟨rfl, _, Eq.trans (World.drewN_drewN _ _ _) (congrArg (World.drewN _) (Nat.add_assoc _ _ _))⟩))); try go_wp2_with (first | (go_at_call 53; (with_reducible refine (laws_sameInts.calls k1 _ _ (rd_L1 l0 x5_1) _ _ (rd_L1 l1 x5_1) false _ ?side1 ?side2 ?side3 ?side4 A7.out).mono ?_); (case side1 => repeat (first | exact HR514_0.out | (with_reducible refine cA ?_ _) | (with_reducible refine cN ?_ _) | (with_reducible refine cD ?_))); (case side2 => exact HC514_0.out); (case side3 => repeat (first | exact HR515_0.out | (with_reducible refine cA ?_ _) | (with_reducible refine cN ?_ _) | (with_reducible refine cD ?_))); (case side4 => exact HC515_0.out); rintro e w' ⟨rfl, ⟨nd, rfl⟩⟩; (try first | exact ⟨rfl, _, World.drewN_drewN _ _ _⟩ | exact ⟨rfl, _, Eq.trans (World.drewN_drewN _ _ _) (congrArg (World.drewN _) (Nat.add_assoc _ _ _))⟩))))
       go_ret
       exact ⟨by first | rfl | (simp; done) | (simp [*]; done), by repeat (first | exact Drawn0.refl _ | apply Drawn0.step)⟩
      rw [if_neg c6] at H
      exact absurd H (by simp)
     rw [if_neg c5] at H
     exact absurd H (by simp)
    rw [if_neg c4] at H; have c4b0 := dF c4; clear c4; obtain rfl := sI H
    go_wp2
    repeat (go_quiet (fail); try go_wp2)
    go_ret
    exact ⟨by first | rfl | (simp; done) | (simp [*]; done), by repeat (first | exact Drawn0.refl _ | apply Drawn0.step)⟩
 rw [if_neg c3] at H
 have c3b0 : ((l0.length : Int) == (l1.length : Int)) = false := beq_eq_false_iff_ne.mpr c3
 have c3b1 : ((l0.length : Int) != (l1.length : Int)) = true := bne_iff_ne.mpr c3
 have c3b2 : (l0.length == l1.length) = false := by first | simpa using c3 | (simp at c3 ⊢; omega)
 obtain rfl := sI H
 go_enter Try.func52, Try.ntmps52
 go_wp2
 repeat (go_quiet (fail); try go_wp2)
 go_ret
 exact ⟨by first | rfl | (simp; done) | (simp [*]; done), by repeat (first | exact Drawn0.refl _ | apply Drawn0.step)⟩

/-! ### laws_stayOf: function 54 -/
def laws_stayOf.l0 : Nat → Int → List Int → Int → Option (List Int)
  | 0, _, _, _ => none
  | k + 1, x0, x3, x4 => if x4 < x0 then (if x3.length < 17592186044416 then (laws_stayOf.l0 k x0 (x3 ++ [x4]) (wrap64 (x4 + 1))) else (none)) else (some x3)
def laws_stayOf.f (k : Nat) (a0 : Int) : Option (List Int) := laws_stayOf.l0 k a0 (([] : List Int)) 0
set_option maxHeartbeats 8000000 in
set_option maxRecDepth 100000 in
theorem laws_stayOf.calls (k : Nat) (a0 : Int) (r : List Int) (w : World) (h : laws_stayOf.f k a0 = some r) :
    Calls Try.prog 54 #[.int .i64 a0] w fun e w' => ∃ v0_ : Value, e = .returned (v0_) ∧ Kd.R (Kd.int .i64) 3 w' w.heap.size (fun _ => True) v0_ r ∧ Below w.heap.size w w' := by
 have HB := A0_ (Below.refl w.heap.size w)
 have H : (laws_stayOf.l0 k a0 (([] : List Int)) 0) = some r := h
 clear h
 obtain ⟨y517, hy517⟩ : ∃ y_ : List Int, y_ = (([] : List Int)) := ⟨_, rfl⟩
 replace H : (laws_stayOf.l0 k a0 y517 0) = some r := zH hy517 H
 have Ny517 := A0_ hy517; clear hy517; have H' := A0_ H; clear H
 go_enter Try.func54, Try.ntmps54
 go_wp2_with (first | ((with_reducible refine gD (N := 5) rfl ?_); refine Kd.R_lit (Kd.int .i64) _ 3 ?hg (N := 5) ?hd (xs := ([] : List Int)) (inner := []) (ok := fun _ => True) (okp := fun _ => True) ?hr ?hp (fun _ hk => hk) trivial (Below.refl _ _) (Nat.le_refl _) (by simp) ?_; (case hd => rfl); (case hg => rfl); (case hr => first | (go_simp; done) | (go_simp; rfl)); (case hp => exact (Reps.none _ _)); intro v518 w2 ho3 hb hg_ hnew_; clear hg_ hnew_; (first | rw [← Ny517.out] at ho3 | (simp only [Int.reduceToNat] at ho3; rw [← Ny517.out] at ho3)); have HO519 := A0_ (rL ho3 (bZ (zB_ HB))); replace HB := zB HB hb; clear hb ho3))
 go_loopg [3, 4] k (fun kq v3 v4 w' => ∃ (x3_1 : List Int) (x4_1 : Int), v4 = .int .i64 x4_1 ∧ Aside0 (laws_stayOf.l0 kq a0 x3_1 x4_1 = some r) ∧ Aside0 (kq ≤ k) ∧ Aside0 (Kd.R (Kd.int .i64) 3 w' w.heap.size (fun _ => True) v3 x3_1) ∧ Aside0 (Below w.heap.size w w'))
 case atStart => exact ⟨(y517), (0), zt, H', ⟨Nat.le_refl _⟩, ⟨zR_ HO519⟩, ⟨zB_ HB⟩⟩
 case round =>
  clear H'; (try clear p2); obtain ⟨x3_1, x4_1, rfl, HA, HK1, HO_3, HB⟩ := hrel
  cases gk with
  | zero => exact absurd HA.out (by simp [laws_stayOf.l0])
  | succ k1 =>
   have H := HA.out; clear HA; simp only [laws_stayOf.l0] at H
   by_cases c4 : x4_1 < a0
   ·rw [if_pos c4] at H
    have c4b0 := dT c4; clear c4
    by_cases c5 : x3_1.length < 17592186044416
    ·rw [if_pos c5] at H
     have LMc5 := A0_ c5; clear c5
     obtain ⟨y520, hy520⟩ : ∃ y_ : List Int, y_ = (x3_1 ++ [x4_1]) := ⟨_, rfl⟩
     replace H : (laws_stayOf.l0 k1 a0 y520 (wrap64 (x4_1 + 1))) = some r := zH hy520 H
     have Ny520 := A0_ hy520; clear hy520; have H' := A0_ H; clear H
     go_wp2_with (first | ((with_reducible refine gB (b := .append) (xs := #[.tmp 11, .tmp 13]) rfl ?_); at_builtin; refine Kd.R_append (Kd.int .i64) (w0 := w) w.heap.size rfl (.tmp 11) (.tmp 13) 22 3 (.int .i64 0) 8 rfl Try.underlying22 info3 rfl (by decide) (by omega) u3 x3_1 x4_1 [.int .i64 x4_1] (fun _ => True) (fun _ => False) rfl rfl ?aP (fun _ hk => hk.elim) ?aF ?aO ?aB ?aS ?aL ?_; (case aP => exact rfl); (case aB => exact (zB_ HB)); (case aF => exact (fun _ _ => trivial)); (case aO => exact (zR_ HO_3)); (case aS => exact (bZ (zB_ HB))); (case aL => have := LMc5.out; omega); intro v521 w6 ho hb hg hat; rw [← Ny520.out] at ho; replace HB := A0_ (hb); have HO522 := A0_ (ho); clear HO_3 ho hb hg hat))
     go_roundg k1
     case measure => have := HK1.out; omega
     case rel => exact ⟨(y520), (wrap64 (x4_1 + 1)), zt, H', ⟨by have := HK1.out; omega⟩, ⟨zR_ HO522⟩, ⟨zB_ HB⟩⟩
    rw [if_neg c5] at H
    exact absurd H (by simp)
   rw [if_neg c4] at H; have c4b0 := dF c4; clear c4; obtain rfl := sI H
   go_wp2
   go_ret
   exact ⟨_, by first | rfl | (simp [*] <;> rfl), zR_ HO_3, zB_ HB⟩

/-! ### laws_FnTrivial: function 14 -/
def laws_FnTrivial.j0 : Nat → Int → List (List Int) → Bool → List (List Int) → Bool → Bool → List Int → List Int → Option (Bool)
  | 0, _, _, _, _, _, _, _, _ => none
  | k + 1, x4, x5, x6, x7, x8, x45, x531000, x531001 => if x45 = true then (if (x6 == x8) = true then ((laws_sameLists.f k x5 x7).bind fun t540 => (some t540)) else (some false)) else ((impl_CoverWinding.f k x531000 x531001 x4 x5 (wrap64 ((x531000.length : Int) / 2))).bind fun bt541 => ((impl_CoverTree.f k x531000 x531001 x4 x5).bind fun bt545 => (if bt541.2 = true then (if bt545.2 = true then ((impl_CoverWhole.f k x531000 x531001 x4 x5).bind fun t549 => (if (t549 == (x4 == 1)) = true then ((laws_stayOf.f k x4).bind fun t550 => ((laws_sameInts.f k bt541.1 t550).bind fun t553 => (if t553 = true then ((laws_sameLists.f k bt545.1 x5).bind fun t554 => (some t554)) else (some false)))) else (some false))) else (some false)) else (some false))))
def laws_FnTrivial.f (k : Nat) (l0 : List Int) : Option (Bool) := if (l0.length : Int) > 1048576 then (some true) else ((spec_DrawCoverTrivial.f k l0).bind fun bt523 => ((impl_CoverTrivial.f k bt523.1 bt523.2.1 bt523.2.2).bind fun bt531 => ((spec_CoverTrivial.f k bt523.1 bt523.2.1 bt523.2.2).bind fun bt535 => (if (bt531.2 != bt535.2) = true then (laws_FnTrivial.j0 k bt523.2.2 bt531.1 bt531.2 bt535.1 bt535.2 true bt523.1 bt523.2.1) else ((laws_sameLists.f k bt531.1 bt535.1).bind fun t539 => (if t539 = true then (laws_FnTrivial.j0 k bt523.2.2 bt531.1 bt531.2 bt535.1 bt535.2 (!bt531.2) bt523.1 bt523.2.1) else (laws_FnTrivial.j0 k bt523.2.2 bt531.1 bt531.2 bt535.1 bt535.2 true bt523.1 bt523.2.1)))))))
set_option maxHeartbeats 8000000 in
set_option maxRecDepth 100000 in
theorem laws_FnTrivial.calls (k : Nat) (A0 : Option Addr) (c0 : Nat) (l0 : List Int) (r : Bool) (w : World) (hr0 : Kd.C (Kd.int .u8) w A0 l0.length l0) (hc0 : l0.length ≤ c0) (h : laws_FnTrivial.f k l0 = some r) :
    Calls Try.prog 14 #[.slice A0 l0.length c0] w fun e w' => e = .returned (.bool r) ∧ Below w.heap.size w w' := by
 have hu29 := Try.underlying29; have HR0 := A0_ hr0; have HC0 := A0_ hc0; clear hr0 hc0
 have HB := A0_ (Below.refl w.heap.size w)
 have H : (if (l0.length : Int) > 1048576 then (some true) else ((spec_DrawCoverTrivial.f k l0).bind fun bt523 => ((impl_CoverTrivial.f k bt523.1 bt523.2.1 bt523.2.2).bind fun bt531 => ((spec_CoverTrivial.f k bt523.1 bt523.2.1 bt523.2.2).bind fun bt535 => (if (bt531.2 != bt535.2) = true then (laws_FnTrivial.j0 k bt523.2.2 bt531.1 bt531.2 bt535.1 bt535.2 true bt523.1 bt523.2.1) else ((laws_sameLists.f k bt531.1 bt535.1).bind fun t539 => (if t539 = true then (laws_FnTrivial.j0 k bt523.2.2 bt531.1 bt531.2 bt535.1 bt535.2 (!bt531.2) bt523.1 bt523.2.1) else (laws_FnTrivial.j0 k bt523.2.2 bt531.1 bt531.2 bt535.1 bt535.2 true bt523.1 bt523.2.1)))))))) = some r := h
 clear h
 by_cases c2 : (l0.length : Int) > 1048576
 ·rw [if_pos c2] at H
  have c2b0 : decide (1048576 < (l0.length : Int)) = true := dT c2
  have c2b1 : decide (1048576 < l0.length) = true := dT (by omega)
  clear c2; obtain rfl := sI H
  go_enter Try.func14, Try.ntmps14
  go_wp2
  go_ret
  exact ⟨by first | rfl | (simp [*] <;> rfl), zB_ HB⟩
 rw [if_neg c2] at H
 have c2b0 : decide (1048576 < (l0.length : Int)) = false := dF c2
 have c2b1 : decide (1048576 < l0.length) = false := dF (by omega)
 clear c2; obtain ⟨⟨t523, t526, t529⟩, A3, H⟩ := zbind H; dsimp only at H; obtain ⟨⟨t531, t534⟩, A4, H⟩ := zbind H; dsimp only at H; obtain ⟨⟨t535, t538⟩, A5, H⟩ := zbind H; dsimp only at H; have HC6 := A0_ H; clear H
 go_enter Try.func14, Try.ntmps14
 go_upto_region 6 with (first | ((with_reducible refine gC (f := 51) rfl ?_); refine zJ (some 18) Try.func51 #[.slice A0 l0.length c0] ?_; (with_reducible refine (spec_DrawCoverTrivial.calls k _ _ l0 t523 t526 t529 _ ?side1 ?side2 A3.out).mono ?_); (case side1 => repeat (first | exact HR0.out | (with_reducible refine cA ?_ _) | (with_reducible refine cN ?_ _) | (with_reducible refine cD ?_))); (case side2 => exact HC0.out); rintro e w7 ⟨v524, v527, rfl, ho0, ho1, hb⟩; refine ⟨_, rfl, ?_⟩; have HO525 := A0_ (Kd.Q_lower ho0 (bZ (zB_ HB))); have HO528 := A0_ (rL ho1 (bZ (zB_ HB))); replace HB := zB HB hb; (try clear hb); (try clear ho0); (try clear ho1)) | ((with_reducible refine gD (N := 3) rfl ?_); refine zX (N := 3) (cs := #[.slice none 0 0, .slice none 0 0]) (t := 29) ?_; intro gb530 hg w8 hbox hb; replace HO525 := A0_ (Kd.Q_below (zQ_ HO525) hb); replace HO528 := zR HO528 hb; have BK530 := A0_ (hbox); have GW530 := zG hg HB; have GE530 := zG hg HB; replace HB := zB HB hb; clear hb hbox hg; obtain ⟨Ao9, co9, eo9, _⟩ := Kd.Q_slice HO525.out; subst eo9; have hcz10_0 := zc0 BK530; have hcz10_1 := zc1 BK530; have hfz10_0 := kF BK530.out 0; have hfz10_1 := kF BK530.out 1; obtain ⟨Ao11, co11, eo11⟩ := rS HO528.out; subst eo11) | ((with_reducible refine gC (f := 24) rfl ?_); refine zJ (some 24) Try.func24 #[.agg #[.slice Ao9 t523.length co9, .slice Ao11 t526.length co11], .int .i64 t529] ?_; (with_reducible refine (impl_CoverTrivial.calls k _ _ t523 _ _ t526 t529 t531 t534 _ ?side1 ?side2 ?side3 ?side4 A4.out).mono ?_); (case side1 => refine (Kd.Q_reads' (e := 3) (base := w.heap.size) (ok := fun k_ => some k_ ≠ (.slice Ao11 t526.length co11 : Value).ownBlock) (n := t523.length) (c := co9) ?_).2.2; exact (by (with_reducible repeat (first | apply Kd.Q_alloc | apply Kd.Q_drewN | apply Kd.Q_drew)); exact (Kd.Q_mono (Kd.Q_far (p := ⟨gb530, 1, none⟩) (Kd.Q_far (p := ⟨gb530, 0, none⟩) (Kd.Q_types HO525.out BK530.out (by decide)) (fun _ hk => hk.2) (.slice Ao9 t523.length co9)) (fun _ hk => hk.2) (.slice Ao11 t526.length co11)) (fun _ h_ => h_.1)))); (case side2 => exact (Kd.Q_reads' HO525.out).2.1); (case side3 => refine (rR (e := 3) (base := w.heap.size) (ok := fun k_ => some k_ ≠ (.slice Ao9 t523.length co9 : Value).ownBlock) (n := t526.length) (c := co11) ?_).2.2; exact (zF HO528 BK530 (.slice Ao9 t523.length co9) (.slice Ao11 t526.length co11) 0 1)); (case side4 => exact (rR HO528.out).2.1); rintro e w12 ⟨v532, rfl, ho0, hb⟩; refine ⟨_, rfl, ?_⟩; have HO533 := A0_ (Kd.S_lower (Kd.S_new' (Kd.S_new' ho0 (Kd.Q_lt (by (with_reducible repeat (first | apply Kd.Q_alloc | apply Kd.Q_drewN | apply Kd.Q_drew)); exact (Kd.Q_mono (Kd.Q_far (p := ⟨gb530, 1, none⟩) (Kd.Q_far (p := ⟨gb530, 0, none⟩) (Kd.Q_types HO525.out BK530.out (by decide)) (fun _ hk => hk.2) (.slice Ao9 t523.length co9)) (fun _ hk => hk.2) (.slice Ao11 t526.length co11)) (fun _ h_ => h_.1))))) (rX (zF HO528 BK530 (.slice Ao9 t523.length co9) (.slice Ao11 t526.length co11) 0 1))) (bZ (zB_ HB))); replace HO525 := A0_ (Kd.Q_below (by (with_reducible repeat (first | apply Kd.Q_alloc | apply Kd.Q_drewN | apply Kd.Q_drew)); exact (Kd.Q_mono (Kd.Q_far (p := ⟨gb530, 1, none⟩) (Kd.Q_far (p := ⟨gb530, 0, none⟩) (Kd.Q_types HO525.out BK530.out (by decide)) (fun _ hk => hk.2) (.slice Ao9 t523.length co9)) (fun _ hk => hk.2) (.slice Ao11 t526.length co11)) (fun _ h_ => h_.1))) hb); replace HO528 := A0_ (rB (zF HO528 BK530 (.slice Ao9 t523.length co9) (.slice Ao11 t526.length co11) 0 1) hb); replace BK530 := A0_ (kB (g := gb530) (o := .cells #[.slice Ao9 t523.length co9, .slice Ao11 t526.length co11] 29 (0, 0)) (by (with_reducible repeat (first | refine kN ?_ _ | refine kD ?_ | refine kA ?_ _)); refine blk_put (cs := #[.slice Ao9 t523.length co9, .slice none 0 0]) ?_ 1 _ rfl; (with_reducible repeat (first | refine kN ?_ _ | refine kD ?_ | refine kA ?_ _)); refine blk_put (cs := #[.slice none 0 0, .slice none 0 0]) ?_ 0 _ rfl; (with_reducible repeat (first | refine kN ?_ _ | refine kD ?_ | refine kA ?_ _)); exact BK530.out) hb); replace HB := zB HB hb; (try clear hb); (try clear ho0); have hcz13_0 := zc0 BK530; have hcz13_1 := zc1 BK530; have hfz13_0 := kF BK530.out 0; have hfz13_1 := kF BK530.out 1) | ((with_reducible refine gC (f := 23) rfl ?_); refine zJ (some 30) Try.func23 #[.agg #[.slice Ao9 t523.length co9, .slice Ao11 t526.length co11], .int .i64 t529] ?_; (with_reducible refine (spec_CoverTrivial.calls k _ _ t523 _ _ t526 t529 t535 t538 _ ?side1 ?side2 ?side3 ?side4 A5.out).mono ?_); (case side1 => exact zDQ HO525); (case side2 => exact (Kd.Q_reads' HO525.out).2.1); (case side3 => exact zD HO528); (case side4 => exact (rR HO528.out).2.1); rintro e w14 ⟨v536, rfl, ho0, hb⟩; refine ⟨_, rfl, ?_⟩; have HO537 := A0_ (Kd.S_lower (Kd.S_new' (Kd.S_new' (Kd.S_new' ho0 (Kd.Q_lt (zQ_ HO525))) (rX (zR_ HO528))) (Kd.S_lt (zS_ HO533))) (bZ (zB_ HB))); replace HO525 := A0_ (Kd.Q_below (zQ_ HO525) hb); replace HO528 := zR HO528 hb; replace HO533 := A0_ (Kd.S_elder' (zS_ HO533) (Kd.S_base ho0) hb); replace BK530 := zK BK530 hb; replace HB := zB HB hb; (try clear hb); (try clear ho0)))
 (try simp only [Act.put, List.setIfInBounds_toArray, List.set_cons_zero, List.set_cons_succ])
 go_cut [45] (fun v45 wc => ∃ (kq : Nat) (x45_5 : Bool), v45 = .bool x45_5 ∧ Aside0 (laws_FnTrivial.j0 kq t529 t531 t534 t535 t538 x45_5 t523 t526 = some r) ∧ Aside0 (kq ≤ k) ∧ Aside0 (Kd.S (Kd.slice 3 (Kd.int .i64)) 22 wc w.heap.size (fun k_ => some k_ ≠ (v536 : Value).ownBlock ∧ some k_ ≠ ((.slice Ao9 t523.length co9) : Value).ownBlock ∧ some k_ ≠ ((.slice Ao11 t526.length co11) : Value).ownBlock) v532 t531) ∧ Aside0 (Kd.S (Kd.slice 3 (Kd.int .i64)) 22 wc w.heap.size (fun k_ => some k_ ≠ (v532 : Value).ownBlock ∧ some k_ ≠ ((.slice Ao9 t523.length co9) : Value).ownBlock ∧ some k_ ≠ ((.slice Ao11 t526.length co11) : Value).ownBlock) v536 t535) ∧ Aside0 (Kd.Q (Kd.int .i64) 3 wc w.heap.size (fun k_ => some k_ ≠ ((.slice Ao11 t526.length co11) : Value).ownBlock) (.slice Ao9 t523.length co9) t523) ∧ Aside0 (Kd.R (Kd.int .i64) 3 wc w.heap.size (fun k_ => some k_ ≠ ((.slice Ao9 t523.length co9) : Value).ownBlock) (.slice Ao11 t526.length co11) t526) ∧ Aside0 (wc.heap[gb530]? = some (.cells #[(.slice Ao9 t523.length co9), (.slice Ao11 t526.length co11)] 29 (0, 0))) ∧ Aside0 (Below w.heap.size w wc))
 case first =>
  have H := HC6.out; clear HC6
  by_cases c15 : (t534 != t538) = true
  ·rw [if_pos c15] at H
   have c15b0 : (t534 != t538) = true := c15
   (try (have c15b1 : decide (t534 = t538) = false := by simpa using c15))
   (try (have c15b2 : (t534 == t538) = false := by simpa using c15))
   (try (have c15b3 : ¬ (t534 = t538) := by simpa using c15))
   clear c15
   (first | rw [c15b0] | (simp only [i64_w, i32_w]; rw [c15b0]) | skip)
   have H' := A0_ H; clear H
   go_wp2
   go_meet
   case rel => exact ⟨_, (true), zt, H', zo, ⟨zmS HO533 (fun _ hk => ⟨hk.2, ⟨hk.1.1.2, hk.1.2⟩⟩)⟩, ⟨zmS HO537 (fun _ hk => ⟨hk.2, ⟨hk.1.1.2, hk.1.2⟩⟩)⟩, ⟨zQ_ HO525⟩, ⟨zR_ HO528⟩, ⟨zK_ BK530⟩, ⟨zB_ HB⟩⟩
  rw [if_neg c15] at H
  have c15b0 : (t534 != t538) = false := by simpa using c15
  (try (have c15b1 : decide (t534 = t538) = true := by simpa using c15))
  (try (have c15b2 : (t534 == t538) = true := by simpa using c15))
  clear c15
  (first | rw [c15b0] | (simp only [i64_w, i32_w]; rw [c15b0]) | skip)
  obtain ⟨t539, A16, H⟩ := zbind H
  by_cases c17 : t539 = true
  ·subst c17
   rw [if_pos rfl] at H; have H' := A0_ H; clear H; obtain ⟨Ao18, co18, eo18⟩ := Kd.S_slice HO533.out; subst eo18; obtain ⟨Ao19, co19, eo19⟩ := Kd.S_slice HO537.out; subst eo19
   go_wp2_with (first | (go_at_call 52; (with_reducible refine (laws_sameLists.calls k _ _ t531 _ _ t535 true _ ?side1 ?side2 ?side3 ?side4 A16.out).mono ?_); (case side1 => exact zDS HO533); (case side2 => exact (Kd.S_reads' HO533.out).2.1); (case side3 => exact zDS HO537); (case side4 => exact (Kd.S_reads' HO537.out).2.1); rintro e w' ⟨rfl, ⟨nd, rfl⟩⟩))
   go_meet
   case rel => exact ⟨_, (!t534), zt, H', zo, ⟨zmS HO533 (fun _ hk => ⟨hk.2, ⟨hk.1.1.2, hk.1.2⟩⟩)⟩, ⟨zmS HO537 (fun _ hk => ⟨hk.2, ⟨hk.1.1.2, hk.1.2⟩⟩)⟩, ⟨zQ_ HO525⟩, ⟨zR_ HO528⟩, ⟨zK_ BK530⟩, ⟨zB_ HB⟩⟩
  replace c17 := Bool.eq_false_iff.mpr c17; subst c17
  rw [if_neg (show ¬ (false = true) by decide)] at H
  have H' := A0_ H; clear H; obtain ⟨Ao20, co20, eo20⟩ := Kd.S_slice HO533.out; subst eo20; obtain ⟨Ao21, co21, eo21⟩ := Kd.S_slice HO537.out; subst eo21
  go_wp2_with (first | (go_at_call 52; (with_reducible refine (laws_sameLists.calls k _ _ t531 _ _ t535 false _ ?side1 ?side2 ?side3 ?side4 A16.out).mono ?_); (case side1 => exact zDS HO533); (case side2 => exact (Kd.S_reads' HO533.out).2.1); (case side3 => exact zDS HO537); (case side4 => exact (Kd.S_reads' HO537.out).2.1); rintro e w' ⟨rfl, ⟨nd, rfl⟩⟩))
  go_meet
  case rel => exact ⟨_, (true), zt, H', zo, ⟨zmS HO533 (fun _ hk => ⟨hk.2, ⟨hk.1.1.2, hk.1.2⟩⟩)⟩, ⟨zmS HO537 (fun _ hk => ⟨hk.2, ⟨hk.1.1.2, hk.1.2⟩⟩)⟩, ⟨zQ_ HO525⟩, ⟨zR_ HO528⟩, ⟨zK_ BK530⟩, ⟨zB_ HB⟩⟩
 case rest =>
  clear HC6; (try clear c1); (try clear c2); (try clear c2b0); (try clear c2b1); (try clear p2); (try clear c5); (try clear c14); (try clear c15); (try clear c15b0); (try clear c15b1); (try clear c15b2); (try clear c17); (try clear hcz10_0); (try clear hcz10_1); (try clear hcz13_0); (try clear hcz13_1); (try clear hfz10_0); (try clear hfz10_1); (try clear hfz13_0); (try clear hfz13_1); obtain ⟨kq, x45_5, rfl, HA, HJ5, HO_5, HO_7, HO_531000, HO_531001, BK530, HB⟩ := hcut
  cases kq with
  | zero => exact absurd HA.out (by simp [laws_FnTrivial.j0])
  | succ kj5 =>
   have H := HA.out; clear HA; simp only [laws_FnTrivial.j0] at H
   by_cases c22 : x45_5 = true
   ·subst c22
    rw [if_pos rfl] at H
    by_cases c23 : (t534 == t538) = true
    ·rw [if_pos c23] at H
     have c23b0 : (t534 == t538) = true := c23
     (try (have c23b1 : decide (t534 = t538) = true := by simpa using c23))
     (try (have c23b2 : (t534 == t538) = true := by simpa using c23))
     clear c23; obtain ⟨t540, A24, H⟩ := zbind H; obtain rfl := sI H; obtain ⟨Ao25, co25, eo25⟩ := Kd.S_slice HO_5.out; subst eo25; obtain ⟨Ao26, co26, eo26⟩ := Kd.S_slice HO_7.out; subst eo26
     go_wp2_with (first | (go_at_call 52; (with_reducible refine (laws_sameLists.calls kj5 _ _ t531 _ _ t535 t540 _ ?side1 ?side2 ?side3 ?side4 A24.out).mono ?_); (case side1 => exact zDS HO_5); (case side2 => exact (Kd.S_reads' HO_5.out).2.1); (case side3 => exact zDS HO_7); (case side4 => exact (Kd.S_reads' HO_7.out).2.1); rintro e w' ⟨rfl, ⟨nd, rfl⟩⟩))
     go_ret
     exact ⟨by first | rfl | (simp [*] <;> rfl), zB_ HB⟩
    rw [if_neg c23] at H
    have c23b0 : (t534 == t538) = false := by simpa using c23
    (try (have c23b1 : decide (t534 = t538) = false := by simpa using c23))
    (try (have c23b2 : (t534 == t538) = false := by simpa using c23))
    (try (have c23b3 : ¬ (t534 = t538) := by simpa using c23))
    clear c23; obtain rfl := sI H
    go_wp2
    go_ret
    exact ⟨by first | rfl | (simp [*] <;> rfl), zB_ HB⟩
   replace c22 := Bool.eq_false_iff.mpr c22; subst c22
   rw [if_neg (show ¬ (false = true) by decide)] at H
   obtain ⟨⟨t541, t544⟩, A27, H⟩ := zbind H; dsimp only at H; obtain ⟨⟨t545, t548⟩, A28, H⟩ := zbind H; dsimp only at H
   by_cases c29 : t544 = true
   ·subst c29
    rw [if_pos rfl] at H
    by_cases c30 : t548 = true
    ·subst c30
     rw [if_pos rfl] at H; obtain ⟨t549, A31, H⟩ := zbind H
     by_cases c32 : (t549 == (t529 == 1)) = true
     ·rw [if_pos c32] at H
      have c32b0 : (t549 == (t529 == 1)) = true := c32
      (try (have c32b1 : decide (t549 = (t529 == 1)) = true := by simpa using c32))
      (try (have c32b2 : (t549 == (t529 == 1)) = true := by simpa using c32))
      clear c32; obtain ⟨t550, A33, H⟩ := zbind H; obtain ⟨t553, A34, H⟩ := zbind H
      by_cases c35 : t553 = true
      ·subst c35
       rw [if_pos rfl] at H; obtain ⟨t554, A36, H⟩ := zbind H; obtain rfl := sI H; have hcz37_0 := zc0 BK530; have hcz37_1 := zc1 BK530; have hfz37_0 := kF BK530.out 0; have hfz37_1 := kF BK530.out 1; obtain ⟨Ao38, co38, eo38⟩ := Kd.S_slice HO_5.out; subst eo38
       go_wp2_with (first | ((with_reducible refine gC (f := 44) rfl ?_); refine zJ (some 62) Try.func44 #[.agg #[.slice Ao9 t523.length co9, .slice Ao11 t526.length co11], .int .i64 t529, .slice Ao38 t531.length co38, .int .i64 (wrap64 ((t523.length : Int) / 2))] ?_; (with_reducible refine (impl_CoverWinding.calls kj5 _ _ t523 _ _ t526 t529 _ _ t531 (wrap64 ((t523.length : Int) / 2)) t541 true _ ?side1 ?side2 ?side3 ?side4 ?side5 ?side6 A27.out).mono ?_); (case side1 => exact zDQ HO_531000); (case side2 => exact (Kd.Q_reads' HO_531000.out).2.1); (case side3 => exact zD HO_531001); (case side4 => exact (rR HO_531001.out).2.1); (case side5 => exact zDS HO_5); (case side6 => exact (Kd.S_reads' HO_5.out).2.1); rintro e w39 ⟨v542, rfl, ho0, hb⟩; refine ⟨_, rfl, ?_⟩; replace HO_5 := A0_ (Kd.S_elder' (zS_ HO_5) (Kd.R_base ho0) hb); replace HO_7 := A0_ (Kd.S_elder' (zS_ HO_7) (Kd.R_base ho0) hb); have HO543 := A0_ (rL (Kd.R_new' (Kd.R_new' ho0 (Kd.Q_lt (zQ_ HO_531000))) (rX (zR_ HO_531001))) (bZ (zB_ HB))); replace HO_531000 := A0_ (Kd.Q_elder' (zQ_ HO_531000) (Kd.R_base ho0) hb); replace HO_531001 := A0_ (Kd.R_elder' (zR_ HO_531001) (Kd.R_base ho0) hb); replace BK530 := zK BK530 hb; replace HB := zB HB hb; (try clear hb); (try clear ho0); have hcz40_0 := zc0 BK530; have hcz40_1 := zc1 BK530; have hfz40_0 := kF BK530.out 0; have hfz40_1 := kF BK530.out 1) | ((with_reducible refine gC (f := 50) rfl ?_); refine zJ (some 69) Try.func50 #[.agg #[.slice Ao9 t523.length co9, .slice Ao11 t526.length co11], .int .i64 t529, .slice Ao38 t531.length co38] ?_; (with_reducible refine (impl_CoverTree.calls kj5 _ _ t523 _ _ t526 t529 (fun k_ => (((some k_ ≠ (v536 : Value).ownBlock ∧ (some k_ ≠ (.slice Ao9 t523.length co9 : Value).ownBlock ∧ some k_ ≠ (.slice Ao11 t526.length co11 : Value).ownBlock)) ∧ some k_ ≠ (v542 : Value).ownBlock) ∧ k_ ≠ gb530)) _ _ t531 t545 true _ ?side1 ?side2 ?side3 ?side4 ?side5 A28.out).mono ?_); (case side1 => exact zDQ HO_531000); (case side2 => exact (Kd.Q_reads' HO_531000.out).2.1); (case side3 => exact zD HO_531001); (case side4 => exact (rR HO_531001.out).2.1); (case side5 => exact Kd.S_V (Kd.S_types (HO_5.out) BK530.out (by decide))); rintro e w41 ⟨v546, rfl, ho0, hb⟩; refine ⟨_, rfl, ?_⟩; have HO547 := A0_ (Kd.S_lower (Kd.S_new' (Kd.S_new' (Kd.S_new' (Kd.S_new' (Kd.S_new' (sM (ok' := fun k_ => True) ho0 (fun _ hk_ => trivial)) (Kd.S_lt (zS_ HO_5))) (Kd.S_lt (zS_ HO_7))) (Kd.Q_lt (zQ_ HO_531000))) (rX (zR_ HO_531001))) (rX (zR_ HO543))) (bZ (zB_ HB))); replace HO_5 := A0_ (Kd.S_elder' (zS_ HO_5) (Kd.S_base ho0) hb); replace HO_7 := A0_ (Kd.S_elder' (zS_ HO_7) (Kd.S_base ho0) hb); replace HO_531000 := A0_ (Kd.Q_below (zQ_ HO_531000) hb); replace HO_531001 := zR HO_531001 hb; replace HO543 := zR HO543 hb; replace BK530 := zK BK530 hb; replace HB := zB HB hb; (try clear hb); (try clear ho0); have hcz42_0 := zc0 BK530; have hcz42_1 := zc1 BK530; have hfz42_0 := kF BK530.out 0; have hfz42_1 := kF BK530.out 1) | (go_at_call 35; (with_reducible refine (impl_CoverWhole.calls kj5 _ _ t523 _ _ t526 t529 _ _ t531 t549 _ ?side1 ?side2 ?side3 ?side4 ?side5 ?side6 A31.out).mono ?_); (case side1 => exact zDQ HO_531000); (case side2 => exact (Kd.Q_reads' HO_531000.out).2.1); (case side3 => exact zD HO_531001); (case side4 => exact (rR HO_531001.out).2.1); (case side5 => exact zDS HO_5); (case side6 => exact (Kd.S_reads' HO_5.out).2.1); rintro e w43 ⟨rfl, hb⟩; replace HO_5 := zS HO_5 hb; replace HO_7 := zS HO_7 hb; replace HO_531000 := A0_ (Kd.Q_below (zQ_ HO_531000) hb); replace HO_531001 := zR HO_531001 hb; replace HO543 := zR HO543 hb; replace HO547 := zS HO547 hb; replace BK530 := zK BK530 hb; replace HB := zB HB hb; (try clear hb)) | (go_at_call 54; (with_reducible refine (laws_stayOf.calls kj5 t529 t550 _ A33.out).mono ?_); rintro e w44 ⟨v551, rfl, ho0, hb⟩; replace HO_5 := A0_ (Kd.S_elder' (zS_ HO_5) (Kd.R_base ho0) hb); replace HO_7 := A0_ (Kd.S_elder' (zS_ HO_7) (Kd.R_base ho0) hb); replace HO547 := A0_ (Kd.S_elder' (zS_ HO547) (Kd.R_base ho0) hb); have HO552 := A0_ (rL (Kd.R_new' (Kd.R_new' (Kd.R_new' ho0 (Kd.Q_lt (zQ_ HO_531000))) (rX (zR_ HO_531001))) (rX (zR_ HO543))) (bZ (zB_ HB))); replace HO_531000 := A0_ (Kd.Q_elder' (zQ_ HO_531000) (Kd.R_base ho0) hb); replace HO_531001 := A0_ (Kd.R_elder' (zR_ HO_531001) (Kd.R_base ho0) hb); replace HO543 := A0_ (Kd.R_elder' (zR_ HO543) (Kd.R_base ho0) hb); replace BK530 := zK BK530 hb; replace HB := zB HB hb; (try clear hb); (try clear ho0); obtain ⟨Ao45, co45, eo45⟩ := rS HO543.out; subst eo45; obtain ⟨Ao46, co46, eo46⟩ := rS HO552.out; subst eo46) | (go_at_call 53; (with_reducible refine (laws_sameInts.calls kj5 _ _ t541 _ _ t550 true _ ?side1 ?side2 ?side3 ?side4 A34.out).mono ?_); (case side1 => exact zD HO543); (case side2 => exact (rR HO543.out).2.1); (case side3 => exact zD HO552); (case side4 => exact (rR HO552.out).2.1); rintro e w' ⟨rfl, ⟨nd, rfl⟩⟩; obtain ⟨Ao47, co47, eo47⟩ := Kd.S_slice HO547.out; subst eo47) | (go_at_call 52; (with_reducible refine (laws_sameLists.calls kj5 _ _ t545 _ _ t531 t554 _ ?side1 ?side2 ?side3 ?side4 A36.out).mono ?_); (case side1 => exact zDS HO547); (case side2 => exact (Kd.S_reads' HO547.out).2.1); (case side3 => exact zDS HO_5); (case side4 => exact (Kd.S_reads' HO_5.out).2.1); rintro e w' ⟨rfl, ⟨nd, rfl⟩⟩))
       go_ret
       exact ⟨by first | rfl | (simp [*] <;> rfl), zB_ HB⟩
      replace c35 := Bool.eq_false_iff.mpr c35; subst c35
      rw [if_neg (show ¬ (false = true) by decide)] at H
      obtain rfl := sI H; have hcz48_0 := zc0 BK530; have hcz48_1 := zc1 BK530; have hfz48_0 := kF BK530.out 0; have hfz48_1 := kF BK530.out 1; obtain ⟨Ao49, co49, eo49⟩ := Kd.S_slice HO_5.out; subst eo49
      go_wp2_with (first | ((with_reducible refine gC (f := 44) rfl ?_); refine zJ (some 62) Try.func44 #[.agg #[.slice Ao9 t523.length co9, .slice Ao11 t526.length co11], .int .i64 t529, .slice Ao49 t531.length co49, .int .i64 (wrap64 ((t523.length : Int) / 2))] ?_; (with_reducible refine (impl_CoverWinding.calls kj5 _ _ t523 _ _ t526 t529 _ _ t531 (wrap64 ((t523.length : Int) / 2)) t541 true _ ?side1 ?side2 ?side3 ?side4 ?side5 ?side6 A27.out).mono ?_); (case side1 => exact zDQ HO_531000); (case side2 => exact (Kd.Q_reads' HO_531000.out).2.1); (case side3 => exact zD HO_531001); (case side4 => exact (rR HO_531001.out).2.1); (case side5 => exact zDS HO_5); (case side6 => exact (Kd.S_reads' HO_5.out).2.1); rintro e w50 ⟨v542, rfl, ho0, hb⟩; refine ⟨_, rfl, ?_⟩; replace HO_5 := A0_ (Kd.S_elder' (zS_ HO_5) (Kd.R_base ho0) hb); replace HO_7 := A0_ (Kd.S_elder' (zS_ HO_7) (Kd.R_base ho0) hb); have HO543 := A0_ (rL (Kd.R_new' (Kd.R_new' ho0 (Kd.Q_lt (zQ_ HO_531000))) (rX (zR_ HO_531001))) (bZ (zB_ HB))); replace HO_531000 := A0_ (Kd.Q_elder' (zQ_ HO_531000) (Kd.R_base ho0) hb); replace HO_531001 := A0_ (Kd.R_elder' (zR_ HO_531001) (Kd.R_base ho0) hb); replace BK530 := zK BK530 hb; replace HB := zB HB hb; (try clear hb); (try clear ho0); have hcz51_0 := zc0 BK530; have hcz51_1 := zc1 BK530; have hfz51_0 := kF BK530.out 0; have hfz51_1 := kF BK530.out 1) | ((with_reducible refine gC (f := 50) rfl ?_); refine zJ (some 69) Try.func50 #[.agg #[.slice Ao9 t523.length co9, .slice Ao11 t526.length co11], .int .i64 t529, .slice Ao49 t531.length co49] ?_; (with_reducible refine (impl_CoverTree.calls kj5 _ _ t523 _ _ t526 t529 (fun k_ => (((some k_ ≠ (v536 : Value).ownBlock ∧ (some k_ ≠ (.slice Ao9 t523.length co9 : Value).ownBlock ∧ some k_ ≠ (.slice Ao11 t526.length co11 : Value).ownBlock)) ∧ some k_ ≠ (v542 : Value).ownBlock) ∧ k_ ≠ gb530)) _ _ t531 t545 true _ ?side1 ?side2 ?side3 ?side4 ?side5 A28.out).mono ?_); (case side1 => exact zDQ HO_531000); (case side2 => exact (Kd.Q_reads' HO_531000.out).2.1); (case side3 => exact zD HO_531001); (case side4 => exact (rR HO_531001.out).2.1); (case side5 => exact Kd.S_V (Kd.S_types (HO_5.out) BK530.out (by decide))); rintro e w52 ⟨v546, rfl, ho0, hb⟩; refine ⟨_, rfl, ?_⟩; have HO547 := A0_ (Kd.S_lower (Kd.S_new' (Kd.S_new' (Kd.S_new' (Kd.S_new' (Kd.S_new' (sM (ok' := fun k_ => True) ho0 (fun _ hk_ => trivial)) (Kd.S_lt (zS_ HO_5))) (Kd.S_lt (zS_ HO_7))) (Kd.Q_lt (zQ_ HO_531000))) (rX (zR_ HO_531001))) (rX (zR_ HO543))) (bZ (zB_ HB))); replace HO_5 := A0_ (Kd.S_elder' (zS_ HO_5) (Kd.S_base ho0) hb); replace HO_7 := A0_ (Kd.S_elder' (zS_ HO_7) (Kd.S_base ho0) hb); replace HO_531000 := A0_ (Kd.Q_below (zQ_ HO_531000) hb); replace HO_531001 := zR HO_531001 hb; replace HO543 := zR HO543 hb; replace BK530 := zK BK530 hb; replace HB := zB HB hb; (try clear hb); (try clear ho0); have hcz53_0 := zc0 BK530; have hcz53_1 := zc1 BK530; have hfz53_0 := kF BK530.out 0; have hfz53_1 := kF BK530.out 1) | (go_at_call 35; (with_reducible refine (impl_CoverWhole.calls kj5 _ _ t523 _ _ t526 t529 _ _ t531 t549 _ ?side1 ?side2 ?side3 ?side4 ?side5 ?side6 A31.out).mono ?_); (case side1 => exact zDQ HO_531000); (case side2 => exact (Kd.Q_reads' HO_531000.out).2.1); (case side3 => exact zD HO_531001); (case side4 => exact (rR HO_531001.out).2.1); (case side5 => exact zDS HO_5); (case side6 => exact (Kd.S_reads' HO_5.out).2.1); rintro e w54 ⟨rfl, hb⟩; replace HO_5 := zS HO_5 hb; replace HO_7 := zS HO_7 hb; replace HO_531000 := A0_ (Kd.Q_below (zQ_ HO_531000) hb); replace HO_531001 := zR HO_531001 hb; replace HO543 := zR HO543 hb; replace HO547 := zS HO547 hb; replace BK530 := zK BK530 hb; replace HB := zB HB hb; (try clear hb)) | (go_at_call 54; (with_reducible refine (laws_stayOf.calls kj5 t529 t550 _ A33.out).mono ?_); rintro e w55 ⟨v551, rfl, ho0, hb⟩; replace HO_5 := A0_ (Kd.S_elder' (zS_ HO_5) (Kd.R_base ho0) hb); replace HO_7 := A0_ (Kd.S_elder' (zS_ HO_7) (Kd.R_base ho0) hb); replace HO547 := A0_ (Kd.S_elder' (zS_ HO547) (Kd.R_base ho0) hb); have HO552 := A0_ (rL (Kd.R_new' (Kd.R_new' (Kd.R_new' ho0 (Kd.Q_lt (zQ_ HO_531000))) (rX (zR_ HO_531001))) (rX (zR_ HO543))) (bZ (zB_ HB))); replace HO_531000 := A0_ (Kd.Q_elder' (zQ_ HO_531000) (Kd.R_base ho0) hb); replace HO_531001 := A0_ (Kd.R_elder' (zR_ HO_531001) (Kd.R_base ho0) hb); replace HO543 := A0_ (Kd.R_elder' (zR_ HO543) (Kd.R_base ho0) hb); replace BK530 := zK BK530 hb; replace HB := zB HB hb; (try clear hb); (try clear ho0); obtain ⟨Ao56, co56, eo56⟩ := rS HO543.out; subst eo56; obtain ⟨Ao57, co57, eo57⟩ := rS HO552.out; subst eo57) | (go_at_call 53; (with_reducible refine (laws_sameInts.calls kj5 _ _ t541 _ _ t550 false _ ?side1 ?side2 ?side3 ?side4 A34.out).mono ?_); (case side1 => exact zD HO543); (case side2 => exact (rR HO543.out).2.1); (case side3 => exact zD HO552); (case side4 => exact (rR HO552.out).2.1); rintro e w' ⟨rfl, ⟨nd, rfl⟩⟩))
      go_ret
      exact ⟨by first | rfl | (simp [*] <;> rfl), zB_ HB⟩
     rw [if_neg c32] at H
     have c32b0 : (t549 == (t529 == 1)) = false := by simpa using c32
     (try (have c32b1 : decide (t549 = (t529 == 1)) = false := by simpa using c32))
     (try (have c32b2 : (t549 == (t529 == 1)) = false := by simpa using c32))
     (try (have c32b3 : ¬ (t549 = (t529 == 1)) := by simpa using c32))
     clear c32; obtain rfl := sI H; have hcz58_0 := zc0 BK530; have hcz58_1 := zc1 BK530; have hfz58_0 := kF BK530.out 0; have hfz58_1 := kF BK530.out 1; obtain ⟨Ao59, co59, eo59⟩ := Kd.S_slice HO_5.out; subst eo59
     go_wp2_with (first | ((with_reducible refine gC (f := 44) rfl ?_); refine zJ (some 62) Try.func44 #[.agg #[.slice Ao9 t523.length co9, .slice Ao11 t526.length co11], .int .i64 t529, .slice Ao59 t531.length co59, .int .i64 (wrap64 ((t523.length : Int) / 2))] ?_; (with_reducible refine (impl_CoverWinding.calls kj5 _ _ t523 _ _ t526 t529 _ _ t531 (wrap64 ((t523.length : Int) / 2)) t541 true _ ?side1 ?side2 ?side3 ?side4 ?side5 ?side6 A27.out).mono ?_); (case side1 => exact zDQ HO_531000); (case side2 => exact (Kd.Q_reads' HO_531000.out).2.1); (case side3 => exact zD HO_531001); (case side4 => exact (rR HO_531001.out).2.1); (case side5 => exact zDS HO_5); (case side6 => exact (Kd.S_reads' HO_5.out).2.1); rintro e w60 ⟨v542, rfl, ho0, hb⟩; refine ⟨_, rfl, ?_⟩; replace HO_5 := A0_ (Kd.S_elder' (zS_ HO_5) (Kd.R_base ho0) hb); replace HO_7 := A0_ (Kd.S_elder' (zS_ HO_7) (Kd.R_base ho0) hb); have HO543 := A0_ (rL (Kd.R_new' (Kd.R_new' ho0 (Kd.Q_lt (zQ_ HO_531000))) (rX (zR_ HO_531001))) (bZ (zB_ HB))); replace HO_531000 := A0_ (Kd.Q_elder' (zQ_ HO_531000) (Kd.R_base ho0) hb); replace HO_531001 := A0_ (Kd.R_elder' (zR_ HO_531001) (Kd.R_base ho0) hb); replace BK530 := zK BK530 hb; replace HB := zB HB hb; (try clear hb); (try clear ho0); have hcz61_0 := zc0 BK530; have hcz61_1 := zc1 BK530; have hfz61_0 := kF BK530.out 0; have hfz61_1 := kF BK530.out 1) | ((with_reducible refine gC (f := 50) rfl ?_); refine zJ (some 69) Try.func50 #[.agg #[.slice Ao9 t523.length co9, .slice Ao11 t526.length co11], .int .i64 t529, .slice Ao59 t531.length co59] ?_; (with_reducible refine (impl_CoverTree.calls kj5 _ _ t523 _ _ t526 t529 (fun k_ => (((some k_ ≠ (v536 : Value).ownBlock ∧ (some k_ ≠ (.slice Ao9 t523.length co9 : Value).ownBlock ∧ some k_ ≠ (.slice Ao11 t526.length co11 : Value).ownBlock)) ∧ some k_ ≠ (v542 : Value).ownBlock) ∧ k_ ≠ gb530)) _ _ t531 t545 true _ ?side1 ?side2 ?side3 ?side4 ?side5 A28.out).mono ?_); (case side1 => exact zDQ HO_531000); (case side2 => exact (Kd.Q_reads' HO_531000.out).2.1); (case side3 => exact zD HO_531001); (case side4 => exact (rR HO_531001.out).2.1); (case side5 => exact Kd.S_V (Kd.S_types (HO_5.out) BK530.out (by decide))); rintro e w62 ⟨v546, rfl, ho0, hb⟩; refine ⟨_, rfl, ?_⟩; have HO547 := A0_ (Kd.S_lower (Kd.S_new' (Kd.S_new' (Kd.S_new' (Kd.S_new' (Kd.S_new' (sM (ok' := fun k_ => True) ho0 (fun _ hk_ => trivial)) (Kd.S_lt (zS_ HO_5))) (Kd.S_lt (zS_ HO_7))) (Kd.Q_lt (zQ_ HO_531000))) (rX (zR_ HO_531001))) (rX (zR_ HO543))) (bZ (zB_ HB))); replace HO_5 := A0_ (Kd.S_elder' (zS_ HO_5) (Kd.S_base ho0) hb); replace HO_7 := A0_ (Kd.S_elder' (zS_ HO_7) (Kd.S_base ho0) hb); replace HO_531000 := A0_ (Kd.Q_below (zQ_ HO_531000) hb); replace HO_531001 := zR HO_531001 hb; replace HO543 := zR HO543 hb; replace BK530 := zK BK530 hb; replace HB := zB HB hb; (try clear hb); (try clear ho0); have hcz63_0 := zc0 BK530; have hcz63_1 := zc1 BK530; have hfz63_0 := kF BK530.out 0; have hfz63_1 := kF BK530.out 1) | (go_at_call 35; (with_reducible refine (impl_CoverWhole.calls kj5 _ _ t523 _ _ t526 t529 _ _ t531 t549 _ ?side1 ?side2 ?side3 ?side4 ?side5 ?side6 A31.out).mono ?_); (case side1 => exact zDQ HO_531000); (case side2 => exact (Kd.Q_reads' HO_531000.out).2.1); (case side3 => exact zD HO_531001); (case side4 => exact (rR HO_531001.out).2.1); (case side5 => exact zDS HO_5); (case side6 => exact (Kd.S_reads' HO_5.out).2.1); rintro e w64 ⟨rfl, hb⟩; replace HO_5 := zS HO_5 hb; replace HO_7 := zS HO_7 hb; replace HO_531000 := A0_ (Kd.Q_below (zQ_ HO_531000) hb); replace HO_531001 := zR HO_531001 hb; replace HO543 := zR HO543 hb; replace HO547 := zS HO547 hb; replace BK530 := zK BK530 hb; replace HB := zB HB hb; (try clear hb)))
     go_ret
     exact ⟨by first | rfl | (simp [*] <;> rfl), zB_ HB⟩
    replace c30 := Bool.eq_false_iff.mpr c30; subst c30
    rw [if_neg (show ¬ (false = true) by decide)] at H
    obtain rfl := sI H; have hcz65_0 := zc0 BK530; have hcz65_1 := zc1 BK530; have hfz65_0 := kF BK530.out 0; have hfz65_1 := kF BK530.out 1; obtain ⟨Ao66, co66, eo66⟩ := Kd.S_slice HO_5.out; subst eo66
    go_wp2_with (first | ((with_reducible refine gC (f := 44) rfl ?_); refine zJ (some 62) Try.func44 #[.agg #[.slice Ao9 t523.length co9, .slice Ao11 t526.length co11], .int .i64 t529, .slice Ao66 t531.length co66, .int .i64 (wrap64 ((t523.length : Int) / 2))] ?_; (with_reducible refine (impl_CoverWinding.calls kj5 _ _ t523 _ _ t526 t529 _ _ t531 (wrap64 ((t523.length : Int) / 2)) t541 true _ ?side1 ?side2 ?side3 ?side4 ?side5 ?side6 A27.out).mono ?_); (case side1 => exact zDQ HO_531000); (case side2 => exact (Kd.Q_reads' HO_531000.out).2.1); (case side3 => exact zD HO_531001); (case side4 => exact (rR HO_531001.out).2.1); (case side5 => exact zDS HO_5); (case side6 => exact (Kd.S_reads' HO_5.out).2.1); rintro e w67 ⟨v542, rfl, ho0, hb⟩; refine ⟨_, rfl, ?_⟩; replace HO_5 := A0_ (Kd.S_elder' (zS_ HO_5) (Kd.R_base ho0) hb); replace HO_7 := A0_ (Kd.S_elder' (zS_ HO_7) (Kd.R_base ho0) hb); have HO543 := A0_ (rL (Kd.R_new' (Kd.R_new' ho0 (Kd.Q_lt (zQ_ HO_531000))) (rX (zR_ HO_531001))) (bZ (zB_ HB))); replace HO_531000 := A0_ (Kd.Q_elder' (zQ_ HO_531000) (Kd.R_base ho0) hb); replace HO_531001 := A0_ (Kd.R_elder' (zR_ HO_531001) (Kd.R_base ho0) hb); replace BK530 := zK BK530 hb; replace HB := zB HB hb; (try clear hb); (try clear ho0); have hcz68_0 := zc0 BK530; have hcz68_1 := zc1 BK530; have hfz68_0 := kF BK530.out 0; have hfz68_1 := kF BK530.out 1) | ((with_reducible refine gC (f := 50) rfl ?_); refine zJ (some 69) Try.func50 #[.agg #[.slice Ao9 t523.length co9, .slice Ao11 t526.length co11], .int .i64 t529, .slice Ao66 t531.length co66] ?_; (with_reducible refine (impl_CoverTree.calls kj5 _ _ t523 _ _ t526 t529 (fun k_ => (((some k_ ≠ (v536 : Value).ownBlock ∧ (some k_ ≠ (.slice Ao9 t523.length co9 : Value).ownBlock ∧ some k_ ≠ (.slice Ao11 t526.length co11 : Value).ownBlock)) ∧ some k_ ≠ (v542 : Value).ownBlock) ∧ k_ ≠ gb530)) _ _ t531 t545 false _ ?side1 ?side2 ?side3 ?side4 ?side5 A28.out).mono ?_); (case side1 => exact zDQ HO_531000); (case side2 => exact (Kd.Q_reads' HO_531000.out).2.1); (case side3 => exact zD HO_531001); (case side4 => exact (rR HO_531001.out).2.1); (case side5 => exact Kd.S_V (Kd.S_types (HO_5.out) BK530.out (by decide))); rintro e w69 ⟨v546, rfl, ho0, hb⟩; refine ⟨_, rfl, ?_⟩; have HO547 := A0_ (Kd.S_lower (Kd.S_new' (Kd.S_new' (Kd.S_new' (Kd.S_new' (Kd.S_new' (sM (ok' := fun k_ => True) ho0 (fun _ hk_ => trivial)) (Kd.S_lt (zS_ HO_5))) (Kd.S_lt (zS_ HO_7))) (Kd.Q_lt (zQ_ HO_531000))) (rX (zR_ HO_531001))) (rX (zR_ HO543))) (bZ (zB_ HB))); replace HO_5 := A0_ (Kd.S_elder' (zS_ HO_5) (Kd.S_base ho0) hb); replace HO_7 := A0_ (Kd.S_elder' (zS_ HO_7) (Kd.S_base ho0) hb); replace HO_531000 := A0_ (Kd.Q_below (zQ_ HO_531000) hb); replace HO_531001 := zR HO_531001 hb; replace HO543 := zR HO543 hb; replace BK530 := zK BK530 hb; replace HB := zB HB hb; (try clear hb); (try clear ho0)))
    go_ret
    exact ⟨by first | rfl | (simp [*] <;> rfl), zB_ HB⟩
   replace c29 := Bool.eq_false_iff.mpr c29; subst c29
   rw [if_neg (show ¬ (false = true) by decide)] at H
   obtain rfl := sI H; have hcz70_0 := zc0 BK530; have hcz70_1 := zc1 BK530; have hfz70_0 := kF BK530.out 0; have hfz70_1 := kF BK530.out 1; obtain ⟨Ao71, co71, eo71⟩ := Kd.S_slice HO_5.out; subst eo71
   go_wp2_with (first | ((with_reducible refine gC (f := 44) rfl ?_); refine zJ (some 62) Try.func44 #[.agg #[.slice Ao9 t523.length co9, .slice Ao11 t526.length co11], .int .i64 t529, .slice Ao71 t531.length co71, .int .i64 (wrap64 ((t523.length : Int) / 2))] ?_; (with_reducible refine (impl_CoverWinding.calls kj5 _ _ t523 _ _ t526 t529 _ _ t531 (wrap64 ((t523.length : Int) / 2)) t541 false _ ?side1 ?side2 ?side3 ?side4 ?side5 ?side6 A27.out).mono ?_); (case side1 => exact zDQ HO_531000); (case side2 => exact (Kd.Q_reads' HO_531000.out).2.1); (case side3 => exact zD HO_531001); (case side4 => exact (rR HO_531001.out).2.1); (case side5 => exact zDS HO_5); (case side6 => exact (Kd.S_reads' HO_5.out).2.1); rintro e w72 ⟨v542, rfl, ho0, hb⟩; refine ⟨_, rfl, ?_⟩; replace HO_5 := A0_ (Kd.S_elder' (zS_ HO_5) (Kd.R_base ho0) hb); replace HO_7 := A0_ (Kd.S_elder' (zS_ HO_7) (Kd.R_base ho0) hb); have HO543 := A0_ (rL (Kd.R_new' (Kd.R_new' ho0 (Kd.Q_lt (zQ_ HO_531000))) (rX (zR_ HO_531001))) (bZ (zB_ HB))); replace HO_531000 := A0_ (Kd.Q_elder' (zQ_ HO_531000) (Kd.R_base ho0) hb); replace HO_531001 := A0_ (Kd.R_elder' (zR_ HO_531001) (Kd.R_base ho0) hb); replace BK530 := zK BK530 hb; replace HB := zB HB hb; (try clear hb); (try clear ho0); have hcz73_0 := zc0 BK530; have hcz73_1 := zc1 BK530; have hfz73_0 := kF BK530.out 0; have hfz73_1 := kF BK530.out 1) | ((with_reducible refine gC (f := 50) rfl ?_); refine zJ (some 69) Try.func50 #[.agg #[.slice Ao9 t523.length co9, .slice Ao11 t526.length co11], .int .i64 t529, .slice Ao71 t531.length co71] ?_; (with_reducible refine (impl_CoverTree.calls kj5 _ _ t523 _ _ t526 t529 (fun k_ => (((some k_ ≠ (v536 : Value).ownBlock ∧ (some k_ ≠ (.slice Ao9 t523.length co9 : Value).ownBlock ∧ some k_ ≠ (.slice Ao11 t526.length co11 : Value).ownBlock)) ∧ some k_ ≠ (v542 : Value).ownBlock) ∧ k_ ≠ gb530)) _ _ t531 t545 t548 _ ?side1 ?side2 ?side3 ?side4 ?side5 A28.out).mono ?_); (case side1 => exact zDQ HO_531000); (case side2 => exact (Kd.Q_reads' HO_531000.out).2.1); (case side3 => exact zD HO_531001); (case side4 => exact (rR HO_531001.out).2.1); (case side5 => exact Kd.S_V (Kd.S_types (HO_5.out) BK530.out (by decide))); rintro e w74 ⟨v546, rfl, ho0, hb⟩; refine ⟨_, rfl, ?_⟩; have HO547 := A0_ (Kd.S_lower (Kd.S_new' (Kd.S_new' (Kd.S_new' (Kd.S_new' (Kd.S_new' (sM (ok' := fun k_ => True) ho0 (fun _ hk_ => trivial)) (Kd.S_lt (zS_ HO_5))) (Kd.S_lt (zS_ HO_7))) (Kd.Q_lt (zQ_ HO_531000))) (rX (zR_ HO_531001))) (rX (zR_ HO543))) (bZ (zB_ HB))); replace HO_5 := A0_ (Kd.S_elder' (zS_ HO_5) (Kd.S_base ho0) hb); replace HO_7 := A0_ (Kd.S_elder' (zS_ HO_7) (Kd.S_base ho0) hb); replace HO_531000 := A0_ (Kd.Q_below (zQ_ HO_531000) hb); replace HO_531001 := zR HO_531001 hb; replace HO543 := zR HO543 hb; replace BK530 := zK BK530 hb; replace HB := zB HB hb; (try clear hb); (try clear ho0)))
   go_ret
   exact ⟨by first | rfl | (simp [*] <;> rfl), zB_ HB⟩

/-- THE ONE PURE STATEMENT of laws_FnTrivial: yours. -/
def laws_FnTrivial.Pure : Prop := ∀ (l0 : List Int), l0.length ≤ maxLen → l0.length * 1 ≤ 140737488351232 → (∀ x ∈ l0, (Lit.int .u8 x).wf = true) → ∃ k, laws_FnTrivial.f k l0 = some true
theorem laws_FnTrivial.walk (P : laws_FnTrivial.Pure) (a0 : Option Addr) (len0 cap0 : Nat) (z0 : List Int) (w : World) (w0 : (a0 = none ∧ len0 = 0 ∧ cap0 = 0 ∧ z0 = []) ∨ ∃ x, a0 = some x ∧ len0 ≤ cap0 ∧ cap0 ≤ maxLen ∧ z0.length = cap0 ∧ (∀ i, i < z0.length → w.cell? (x.add i) = some (.int .u8 (z0.getD i 0))) ∧ ∀ n ∈ z0, (Lit.int .u8 n).wf = true) (y0 : len0 * 1 ≤ 140737488351232) :
  Calls Try.prog 14 #[.slice a0 len0 cap0] w fun e w' => e = .returned (.bool true) ∧ Below w.heap.size w w' := by
 obtain ⟨l0, rfl, hr0, hm0, hw0, hc0⟩ := ReadsInt.ofRowC w0; obtain ⟨k, h⟩ := P l0 hm0 y0 hw0
 refine (laws_FnTrivial.calls k _ _ l0 true w (Kd.C_of_reads (d := (0 : Int)) (h1 := fun _ => rfl) hr0) hc0 h).mono ?_
 rintro e w' ⟨rfl, hd⟩
 exact ⟨rfl, hd⟩

end Go.Proofs.Ytmcgkckdnelcdaa.PFnTrivial
