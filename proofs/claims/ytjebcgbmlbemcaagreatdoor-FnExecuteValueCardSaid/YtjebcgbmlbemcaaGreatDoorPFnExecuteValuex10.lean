-- Made by a program of this session (wip/tools) out of the loaded program; not trusted: Lean checks it.
import Derived.Test.YtjebcgbmlbemcaaGreatDoorPFnExecuteValuex0
import Derived.Test.YtjebcgbmlbemcaaGreatDoorPFnExecuteValuex6
import Derived.Test.YtjebcgbmlbemcaaGreatDoorPFnExecuteValuex7
import Derived.Test.YtjebcgbmlbemcaaGreatDoorPFnExecuteValuex9
-- packed
namespace Go.Proofs.YtjebcgbmlbemcaaGreatDoor.PFnExecuteValue
open Go.RowKit Go.Proofs.YtjebcgbmlbemcaaGreatDoorW.PrintWords Go.Proofs.YtjebcgbmlbemcaaGreatDoorW.PrintLast Go.Proofs.YtjebcgbmlbemcaaGreatDoorW.PrintMore
attribute [local go_sem] max2_int min2_int max_two min_two max_three min_three max_four min_four   -- for this text's walks alone
set_option linter.unusedVariables false
set_option linter.unusedSimpArgs false

/-! ### spec_DrawRibbonValue: function 14 -/
def spec_DrawRibbonValue.f (k : Nat) (l0 : List Int) : Option (List Int × List Int × Int × Int × Int) := (spec_l6Open.f l0).bind fun bt340 => ((spec_l91Map.f k bt340.1 bt340.2 4).bind fun bt343 => ((spec_l6Rd_pick.f k bt340.1 bt343.2.2 4).bind fun bt351 => ((spec_l6Rd_pick.f k bt340.1 bt351.2 20).bind fun bt353 => ((spec_l6Rd_pick.f k bt340.1 bt353.2 4).bind fun bt355 => ((spec_l6Rd_pick.f k bt340.1 bt355.2 20).bind fun bt357 => ((spec_l6Rd_pick.f k bt340.1 bt357.2 4).bind fun bt359 => (some (bt343.1, bt343.2.1, wrap64 (bt351.1 + (wrap64 ((wrap64 (Int.tdiv bt353.1 19)) * 4))), wrap64 (bt355.1 - (wrap64 ((wrap64 (Int.tdiv bt357.1 19)) * 4))), bt359.1))))))))
def spec_DrawRibbonValue.T3 : Bool × List (List Nat × List Nat) := (true, [([], []), ([], []), ([1], [1]), ([], []), ([3, 2], [3]), ([4], [4]), ([5], [5]), ([2, 6], [2, 6]), ([], []), ([8, 4], [8]), ([], []), ([10, 9], [10]), ([11], [11]), ([12], [12]), ([9, 13], [9, 13]), ([], []), ([15, 11], [15]), ([0, 16, 0], [0]), ([7, 17, 0, 1, 2, 3, 4, 5, 6, 7, 17], [7]), ([14, 18, 0, 1, 2, 3, 4, 5, 6, 7, 8, 9, 10, 11, 12, 13, 14, 17, 18], [14]), ([16, 19, 0, 1, 2, 3, 4, 5, 6, 7, 8, 9, 10, 11, 12, 13, 14, 15, 16, 17, 18, 19], [16])])
def spec_DrawRibbonValue.B3 : List Nat := [0, 0, 2, 0, 14, 30, 62, 126, 0, 286, 0, 1822, 3870, 7966, 16158, 0, 36638, 102175, 233471, 524287, 1048575]
theorem spec_DrawRibbonValue.tab3 : rtab .any (opsOf Tryz.f14 3) = spec_DrawRibbonValue.T3 := by kernel_rfl
theorem spec_DrawRibbonValue.bits3 : waitsOk spec_DrawRibbonValue.T3.2 spec_DrawRibbonValue.B3 = true := by kernel_rfl
set_option maxHeartbeats 8000000 in
set_option maxRecDepth 100000 in
theorem spec_DrawRibbonValue.calls (k : Nat) (A0 : Option Addr) (c0 : Nat) (l0 : List Int) (r1 : List Int) (r2 : List Int) (r3 : Int) (r4 : Int) (r5 : Int) (w : World) (hr0 : Kd.C (Kd.int .u8) w A0 l0.length l0) (hc0 : l0.length ≤ c0) (h : spec_DrawRibbonValue.f k l0 = some (r1, r2, r3, r4, r5)) :
    Calls Tryz.prog 14 #[.slice A0 l0.length c0] w fun e w' => ∃ v0_ v1_ : Value, e = .returned (.tuple #[.agg #[v0_, v1_], .int .i64 r3, .int .i64 r4, .int .i64 r5]) ∧ Kd.Q (Kd.int .i64) 3 w' w.heap.size (fun k_ => some k_ ≠ (v1_ : Value).ownBlock) v0_ r1 ∧ Kd.R (Kd.int .i64) 3 w' w.heap.size (fun k_ => some k_ ≠ (v0_ : Value).ownBlock) v1_ r2 ∧ Below w.heap.size w w' := by
 have hu25 := Tryz.underlying25; have HR0 := A0_ hr0; have HC0 := A0_ hc0; clear hr0 hc0
 have HB := A0_ (Below.refl w.heap.size w)
 have H : ((spec_l6Open.f l0).bind fun bt340 => ((spec_l91Map.f k bt340.1 bt340.2 4).bind fun bt343 => ((spec_l6Rd_pick.f k bt340.1 bt343.2.2 4).bind fun bt351 => ((spec_l6Rd_pick.f k bt340.1 bt351.2 20).bind fun bt353 => ((spec_l6Rd_pick.f k bt340.1 bt353.2 4).bind fun bt355 => ((spec_l6Rd_pick.f k bt340.1 bt355.2 20).bind fun bt357 => ((spec_l6Rd_pick.f k bt340.1 bt357.2 4).bind fun bt359 => (some (bt343.1, bt343.2.1, wrap64 (bt351.1 + (wrap64 ((wrap64 (Int.tdiv bt353.1 19)) * 4))), wrap64 (bt355.1 - (wrap64 ((wrap64 (Int.tdiv bt357.1 19)) * 4))), bt359.1))))))))) = some (r1, r2, r3, r4, r5) := h
 clear h; obtain ⟨⟨t340, t341⟩, A2, H⟩ := zbind H; dsimp only at H; obtain ⟨⟨t343, t346, t349⟩, A3, H⟩ := zbind H; dsimp only at H; obtain ⟨⟨t351, t352⟩, A4, H⟩ := zbind H; dsimp only at H; obtain ⟨⟨t353, t354⟩, A5, H⟩ := zbind H; dsimp only at H; obtain ⟨⟨t355, t356⟩, A6, H⟩ := zbind H; dsimp only at H; obtain ⟨⟨t357, t358⟩, A7, H⟩ := zbind H; dsimp only at H; obtain ⟨⟨t359, t360⟩, A8, H⟩ := zbind H; dsimp only at H; simp only [Option.some.injEq, Prod.mk.injEq] at H; obtain ⟨rfl, rfl, rfl, rfl, rfl⟩ := H
 go_enter Tryz.func14, Tryz.ntmps14
 try go_wp2_with (first | ((with_reducible refine gD (N := 2) rfl ?_); refine zX (N := 2) (cs := #[.slice none 0 0, .slice none 0 0]) (t := 25) ?_; intro gb339 hg w9 hbox hb; have BK339 := A0_ (hbox); have GW339 := zG hg HB; have GE339 := zG hg HB; replace HB := zB HB hb; clear hb hbox hg) | ((with_reducible refine gC (f := 21) rfl ?_); refine zJ (some 9) Tryz.func21 #[.slice A0 l0.length c0] ?_; (with_reducible refine (spec_l6Open.calls _ _ l0 t340 t341 w _ ?side1 ?side2 ?side3 A2.out).mono ?_); (case side1 => repeat (first | (with_reducible first | exact HB.out | apply bA | apply bN | apply bD | refine bS ?_ GE339.out) | exact HB.out)); (case side2 => exact HR0.out); (case side3 => exact HC0.out); rintro e w10 ⟨g342, rfl, hi, hb, hb2⟩; refine ⟨_, rfl, ?_⟩; replace HB := A0_ (hb); have HI342 := A0_ (hi); have NB342_339 := A0_ (IsS76.ne_blk hi (kB (g := gb339) (o := .cells #[.slice none 0 0, .slice none 0 0] 25 (0, 0)) (zK_ BK339) hb2) (by decide)); have NB339_342 := A0_ (Ne.symm (IsS76.ne_blk hi (kB (g := gb339) (o := .cells #[.slice none 0 0, .slice none 0 0] 25 (0, 0)) (zK_ BK339) hb2) (by decide))); replace BK339 := A0_ (kB (g := gb339) (o := .cells #[.slice none 0 0, .slice none 0 0] 25 (0, 0)) (zK_ BK339) hb2); (try clear hb)) | ((with_reducible refine gC (f := 23) rfl ?_); refine zJ (some 11) Tryz.func23 #[.pointer (some ⟨g342, 0, none⟩), .int .i64 4] ?_; (with_reducible refine (spec_l91Map.calls k g342 t340 t341 4 t343 t346 t349 w _ ?side1 ?side2 A3.out).mono ?_); (case side1 => repeat (first | (with_reducible first | exact HI342.out | apply IsS76.alloc | apply IsS76.drewN | apply IsS76.drew | apply IsS76.set_1 | refine IsS76.far ?_ NB342_339.out _) | exact HI342.out)); (case side2 => repeat (first | (with_reducible first | exact HB.out | apply bA | apply bN | apply bD | refine bS ?_ (IsS76.ge HI342.out) | refine bS ?_ GE339.out) | exact HB.out)); rintro e w11 ⟨v344, v347, rfl, ho0, ho1, hi, hb, hk⟩; refine ⟨_, rfl, ?_⟩; replace BK339 := A0_ (KeepBut.blk hk (g' := gb339) (o := .cells #[.slice none 0 0, .slice none 0 0] 25 (0, 0)) (zK_ BK339) NB339_342.out (by simp)); have HO345 := A0_ (Kd.Q_lower ho0 (bZ (by repeat (first | (with_reducible first | exact HB.out | apply bA | apply bN | apply bD | refine bS ?_ (IsS76.ge HI342.out) | refine bS ?_ GE339.out) | exact HB.out)))); have HO348 := A0_ (rL ho1 (bZ (by repeat (first | (with_reducible first | exact HB.out | apply bA | apply bN | apply bD | refine bS ?_ (IsS76.ge HI342.out) | refine bS ?_ GE339.out) | exact HB.out)))); replace HB := A0_ (hb); replace HI342 := A0_ (hi); (try clear hb); (try clear ho0); (try clear ho1)) | ((with_reducible refine gD (N := 7) rfl ?_); refine zX (N := 7) (cs := #[.slice none 0 0, .slice none 0 0]) (t := 25) ?_; intro gb350 hg w12 hbox hb; replace HO345 := A0_ (Kd.Q_below (zQ_ HO345) hb); replace HO348 := zR HO348 hb; have BK350 := A0_ (hbox); have GW350 := A0_ ((by rw [hg]; exact (bZ (by repeat (first | (with_reducible first | exact HB.out | apply bA | apply bN | apply bD | refine bS ?_ (IsS76.ge HI342.out) | refine bS ?_ GE339.out) | exact HB.out))) : w.heap.size ≤ gb350)); have GE350 := A0_ ((by rw [hg]; exact (bZ (by repeat (first | (with_reducible first | exact HB.out | apply bA | apply bN | apply bD | refine bS ?_ (IsS76.ge HI342.out) | refine bS ?_ GE339.out) | exact HB.out))) : w.heap.size ≤ gb350)); replace HB := A0_ (bT (by repeat (first | (with_reducible first | exact HB.out | apply bA | apply bN | apply bD | refine bS ?_ (IsS76.ge HI342.out) | refine bS ?_ GE339.out) | exact HB.out)) hb); have NB339_350 := zL hg BK339; have NB350_339 := zM hg BK339; replace BK339 := zK BK339 hb; have NB342_350 := A0_ ((by rw [hg]; exact Nat.ne_of_lt (IsS76.lt (show IsS76 w _ g342 t340 t349 from by repeat (first | (with_reducible first | exact HI342.out | apply IsS76.alloc | apply IsS76.drewN | apply IsS76.drew | apply IsS76.set_1 | refine IsS76.far ?_ NB342_339.out _) | exact HI342.out))) : g342 ≠ gb350)); have NB350_342 := A0_ ((by rw [hg]; exact Nat.ne_of_gt (IsS76.lt (show IsS76 w _ g342 t340 t349 from by repeat (first | (with_reducible first | exact HI342.out | apply IsS76.alloc | apply IsS76.drewN | apply IsS76.drew | apply IsS76.set_1 | refine IsS76.far ?_ NB342_339.out _) | exact HI342.out))) : gb350 ≠ g342)); replace HI342 := A0_ (IsS76.below (by repeat (first | (with_reducible first | exact HI342.out | apply IsS76.alloc | apply IsS76.drewN | apply IsS76.drew | apply IsS76.set_1 | refine IsS76.far ?_ NB342_339.out _) | exact HI342.out)) hb); clear hb hbox hg; obtain ⟨Ao13, co13, eo13, _⟩ := Kd.Q_slice HO345.out; subst eo13; have hnb14 := NB350_339.out; have hnc14 := NB339_350.out; have hnb15 := NB350_342.out; have hnc15 := NB342_350.out; have hcz16_0 := zc0 BK350; have hcz16_1 := zc1 BK350; have hfz16_0 := kF BK350.out 0; have hfz16_1 := kF BK350.out 1; obtain ⟨Ao17, co17, eo17⟩ := rS HO348.out; subst eo17))
 have n0_ : Aside0 (Kd.Q (Kd.int .i64) 3 ((w12.setCell ⟨gb350, 0, none⟩ (.slice Ao13 t343.length co13)).setCell ⟨gb350, 1, none⟩ (.slice Ao17 t346.length co17)) w.heap.size (fun k_ => some k_ ≠ (.slice Ao17 t346.length co17 : Value).ownBlock) (.slice Ao13 t343.length co13) t343) := ⟨by (with_reducible repeat (first | apply Kd.Q_alloc | apply Kd.Q_drewN | apply Kd.Q_drew)); exact Kd.Q_mono (Kd.Q_far (p := ⟨gb350, 1, none⟩) (Kd.Q_far (p := ⟨gb350, 0, none⟩) (Kd.Q_types HO345.out BK350.out (by decide)) (fun _ hk => hk.2) (.slice Ao13 t343.length co13)) (fun _ hk => hk.2) (.slice Ao17 t346.length co17)) (fun _ hk => hk.1)⟩
 have n1_ : Aside0 (Kd.R (Kd.int .i64) 3 ((w12.setCell ⟨gb350, 0, none⟩ (.slice Ao13 t343.length co13)).setCell ⟨gb350, 1, none⟩ (.slice Ao17 t346.length co17)) w.heap.size (fun k_ => some k_ ≠ (.slice Ao13 t343.length co13 : Value).ownBlock) (.slice Ao17 t346.length co17) t346) := ⟨zF HO348 BK350 (.slice Ao13 t343.length co13) (.slice Ao17 t346.length co17) 0 1⟩
 have n2_ : Aside0 (((w12.setCell ⟨gb350, 0, none⟩ (.slice Ao13 t343.length co13)).setCell ⟨gb350, 1, none⟩ (.slice Ao17 t346.length co17)).heap[gb339]? = some (.cells #[.slice none 0 0, .slice none 0 0] 25 (0, 0))) := ⟨by (with_reducible repeat (first | refine kN ?_ _ | refine kD ?_ | refine kA ?_ _)); refine blk_far ?_ NB339_350.out _; (with_reducible repeat (first | refine kN ?_ _ | refine kD ?_ | refine kA ?_ _)); refine blk_far ?_ NB339_350.out _; (with_reducible repeat (first | refine kN ?_ _ | refine kD ?_ | refine kA ?_ _)); exact BK339.out⟩
 have n3_ : Aside0 (((w12.setCell ⟨gb350, 0, none⟩ (.slice Ao13 t343.length co13)).setCell ⟨gb350, 1, none⟩ (.slice Ao17 t346.length co17)).heap[gb350]? = some (.cells #[.slice Ao13 t343.length co13, .slice Ao17 t346.length co17] 25 (0, 0))) := ⟨by (with_reducible repeat (first | refine kN ?_ _ | refine kD ?_ | refine kA ?_ _)); refine blk_put (cs := #[.slice Ao13 t343.length co13, .slice none 0 0]) ?_ 1 _ rfl; (with_reducible repeat (first | refine kN ?_ _ | refine kD ?_ | refine kA ?_ _)); refine blk_put (cs := #[.slice none 0 0, .slice none 0 0]) ?_ 0 _ rfl; (with_reducible repeat (first | refine kN ?_ _ | refine kD ?_ | refine kA ?_ _)); exact BK350.out⟩
 have n4_ : Aside0 (IsS76 w ((w12.setCell ⟨gb350, 0, none⟩ (.slice Ao13 t343.length co13)).setCell ⟨gb350, 1, none⟩ (.slice Ao17 t346.length co17)) g342 t340 t349) := ⟨by repeat (first | (with_reducible first | exact HI342.out | apply IsS76.alloc | apply IsS76.drewN | apply IsS76.drew | apply IsS76.set_1 | refine IsS76.far ?_ NB342_339.out _ | refine IsS76.far ?_ NB342_350.out _) | exact HI342.out)⟩
 have n5_ : Aside0 (Below w.heap.size w ((w12.setCell ⟨gb350, 0, none⟩ (.slice Ao13 t343.length co13)).setCell ⟨gb350, 1, none⟩ (.slice Ao17 t346.length co17))) := ⟨by repeat (first | (with_reducible first | exact HB.out | apply bA | apply bN | apply bD | refine bS ?_ (IsS76.ge HI342.out) | refine bS ?_ GE339.out | refine bS ?_ GE350.out) | exact HB.out)⟩
 (try clear HO345); (try clear HO348); (try clear BK339); (try clear BK350); (try clear HI342); (try clear HB)
 generalize ((w12.setCell ⟨gb350, 0, none⟩ (.slice Ao13 t343.length co13)).setCell ⟨gb350, 1, none⟩ (.slice Ao17 t346.length co17)) = w18 at n0_ n1_ n2_ n3_ n4_ n5_ ⊢
 have HO345 := n0_; have HO348 := n1_; have BK339 := n2_; have BK350 := n3_; have HI342 := n4_; have HB := n5_; clear n0_ n1_ n2_ n3_ n4_ n5_
 replace HO345 := A0_ (Kd.Q_drew HO345.out)
 replace HO348 := A0_ (rD HO348.out)
 replace BK339 := A0_ (kD BK339.out)
 replace BK350 := A0_ (kD BK350.out)
 replace HI342 := A0_ (IsS76.drew HI342.out)
 replace HB := A0_ (bD HB.out)
 refine start_ (n := 21) (S := fun w' => w'.cell? ⟨gb350, 0, none⟩ = some (.slice Ao13 t343.length co13) ∧ w'.cell? ⟨gb350, 1, none⟩ = some (.slice Ao17 t346.length co17)) (ds := []) #[false, false, false, false, false, false, false, false, false, false, false, false, false, false, false, false, false, false, false, false, false] (by kernel_rfl) rfl rfl ⟨(kC BK350.out 0).trans rfl, (kC BK350.out 1).trans rfl⟩ (fun hHeld => ?_); refine with_tabW spec_DrawRibbonValue.tab3 spec_DrawRibbonValue.bits3 (fun HT_ HW_ => ?_)
 generalize w18.drew = w19 at HO345 HO348 BK339 BK350 HI342 HB hHeld ⊢
 refine zP 1 (some 13) #[false,true,false,false,false,false,false,false,false,false,false,false,false,false,false,false,false,false,false,false,false] ?_
 refine zP 3 (some 15) #[false,true,false,true,false,false,false,false,false,false,false,false,false,false,false,false,false,false,false,false,false] ?_
 refine zP 8 (some 20) #[false,true,false,true,false,false,false,false,true,false,false,false,false,false,false,false,false,false,false,false,false] ?_
 refine zP 10 (some 22) #[false,true,false,true,false,false,false,false,true,false,true,false,false,false,false,false,false,false,false,false,false] ?_
 refine zP 15 (some 27) #[false,true,false,true,false,false,false,false,true,false,true,false,false,false,false,true,false,false,false,false,false] ?_
 refine take_ (i := 0) (N := some 12) (v := ?_) (a' := ?_) #[true, true, false, true, false, false, false, false, true, false, true, false, false, false, false, true, false, false, false, false, false] rfl rfl (take_ofW HT_.out HW_.out (by kernel_rfl)) (fun _ _ _ h => h) (Or.inl ⟨by rfl, ?_⟩) hHeld ?_ ?_
 rotate_left
 ·rintro w' ⟨s0, s1⟩
  go_simp
  with_reducible rfl
 rotate_left
 ·simp only [Act.put, List.setIfInBounds_toArray, List.set_cons_zero, List.set_cons_succ, i64_w, i32_w]
  rfl
 refine one_ (i := 2) (N := some 14) #[true, true, true, true, false, false, false, false, true, false, true, false, false, false, false, true, false, false, false, false, false] rfl rfl (one_of HT_.out (by kernel_rfl)) (by decide) (fun K hK => ?_)
 refine goes_ Tryz.func22 (by kernel_rfl) rfl #[.pointer (some ⟨g342, 0, none⟩), .int .i64 4] (by rfl) rfl rfl (by (try simp only [List.map_toArray, List.map_cons, List.map_nil]); first | done | rfl | (simp only [List.length_drop, List.length_take]; rfl)) ?_
 with_reducible refine (spec_l6Rd_pick.calls k g342 t340 t349 4 t351 t352 w _ ?side1 ?side2 A4.out).mono ?_
 (case side1 => repeat (first | (with_reducible first | exact HI342.out | apply IsS76.alloc | apply IsS76.drewN | apply IsS76.drew | apply IsS76.set_1 | refine IsS76.far ?_ NB342_339.out _ | refine IsS76.far ?_ NB342_350.out _) | exact HI342.out))
 (case side2 => repeat (first | (with_reducible first | exact HB.out | apply bA | apply bN | apply bD | refine bS ?_ (IsS76.ge HI342.out) | refine bS ?_ GE339.out | refine bS ?_ GE350.out) | exact HB.out))
 rintro e w20 ⟨rfl, hi, hb, hk⟩
 refine ⟨_, rfl, ?_⟩
 replace BK339 := A0_ (KeepBut.blk hk (g' := gb339) (o := .cells #[.slice none 0 0, .slice none 0 0] 25 (0, 0)) (zK_ BK339) NB339_342.out (by simp))
 replace HO345 := A0_ (Kd.Q_mono (Kd.Q_keep (IsS76.apartQ (show IsS76 w _ g342 t340 t349 from by repeat (first | (with_reducible first | exact HI342.out | apply IsS76.alloc | apply IsS76.drewN | apply IsS76.drew | apply IsS76.set_1 | refine IsS76.far ?_ NB342_339.out _ | refine IsS76.far ?_ NB342_350.out _) | exact HI342.out)) (zQ_ HO345) (by decide)) hk (fun _ h => h.2)) (fun _ h => h.1))
 replace HO348 := A0_ (rM (Kd.R_keep (IsS76.apart (show IsS76 w _ g342 t340 t349 from by repeat (first | (with_reducible first | exact HI342.out | apply IsS76.alloc | apply IsS76.drewN | apply IsS76.drew | apply IsS76.set_1 | refine IsS76.far ?_ NB342_339.out _ | refine IsS76.far ?_ NB342_350.out _) | exact HI342.out)) (zR_ HO348) (by decide)) hk (fun _ h => h.2)) (fun _ h => h.1))
 replace BK350 := A0_ (KeepBut.blk hk (g' := gb350) (o := .cells #[.slice Ao13 t343.length co13, .slice Ao17 t346.length co17] 25 (0, 0)) (zK_ BK350) NB350_342.out (by simp))
 replace HB := A0_ (hb)
 replace HI342 := A0_ (hi)
 (try clear hb); (try clear hb2); (try clear hk); (try clear hi)
 refine hK.out _ _ ⟨(kC BK350.out 0).trans rfl, (kC BK350.out 1).trans rfl⟩ (fun hHeld => ?_)
 clear hK K
 refine norm_ (a' := ?_) ?_ ?_
 rotate_left
 ·show Act.put _ (some 14) _ = _
  simp only [Act.put, List.setIfInBounds_toArray, List.set_cons_zero, List.set_cons_succ, i64_w, i32_w]
  rfl
 refine one_ (i := 4) (N := some 16) #[true, true, true, true, true, false, false, false, true, false, true, false, false, false, false, true, false, false, false, false, false] rfl rfl (one_of HT_.out (by kernel_rfl)) (by decide) (fun K hK => ?_)
 refine goes_ Tryz.func22 (by kernel_rfl) rfl #[.pointer (some ⟨g342, 0, none⟩), .int .i64 20] (by rfl) rfl rfl (by (try simp only [List.map_toArray, List.map_cons, List.map_nil]); first | done | rfl | (simp only [List.length_drop, List.length_take]; rfl)) ?_
 with_reducible refine (spec_l6Rd_pick.calls k g342 t340 t352 20 t353 t354 w _ ?side1 ?side2 A5.out).mono ?_
 (case side1 => repeat (first | (with_reducible first | exact HI342.out | apply IsS76.alloc | apply IsS76.drewN | apply IsS76.drew | apply IsS76.set_1 | refine IsS76.far ?_ NB342_339.out _ | refine IsS76.far ?_ NB342_350.out _) | exact HI342.out))
 (case side2 => repeat (first | (with_reducible first | exact HB.out | apply bA | apply bN | apply bD | refine bS ?_ (IsS76.ge HI342.out) | refine bS ?_ GE339.out | refine bS ?_ GE350.out) | exact HB.out))
 rintro e w21 ⟨rfl, hi, hb, hk⟩
 refine ⟨_, rfl, ?_⟩
 replace BK339 := A0_ (KeepBut.blk hk (g' := gb339) (o := .cells #[.slice none 0 0, .slice none 0 0] 25 (0, 0)) (zK_ BK339) NB339_342.out (by simp))
 replace HO345 := A0_ (Kd.Q_mono (Kd.Q_keep (IsS76.apartQ (show IsS76 w _ g342 t340 t352 from by repeat (first | (with_reducible first | exact HI342.out | apply IsS76.alloc | apply IsS76.drewN | apply IsS76.drew | apply IsS76.set_1 | refine IsS76.far ?_ NB342_339.out _ | refine IsS76.far ?_ NB342_350.out _) | exact HI342.out)) (zQ_ HO345) (by decide)) hk (fun _ h => h.2)) (fun _ h => h.1))
 replace HO348 := A0_ (rM (Kd.R_keep (IsS76.apart (show IsS76 w _ g342 t340 t352 from by repeat (first | (with_reducible first | exact HI342.out | apply IsS76.alloc | apply IsS76.drewN | apply IsS76.drew | apply IsS76.set_1 | refine IsS76.far ?_ NB342_339.out _ | refine IsS76.far ?_ NB342_350.out _) | exact HI342.out)) (zR_ HO348) (by decide)) hk (fun _ h => h.2)) (fun _ h => h.1))
 replace BK350 := A0_ (KeepBut.blk hk (g' := gb350) (o := .cells #[.slice Ao13 t343.length co13, .slice Ao17 t346.length co17] 25 (0, 0)) (zK_ BK350) NB350_342.out (by simp))
 replace HB := A0_ (hb)
 replace HI342 := A0_ (hi)
 (try clear hb); (try clear hb2); (try clear hk); (try clear hi)
 refine hK.out _ _ ⟨(kC BK350.out 0).trans rfl, (kC BK350.out 1).trans rfl⟩ (fun hHeld => ?_)
 clear hK K
 refine norm_ (a' := ?_) ?_ ?_
 rotate_left
 ·show Act.put _ (some 16) _ = _
  simp only [Act.put, List.setIfInBounds_toArray, List.set_cons_zero, List.set_cons_succ, i64_w, i32_w]
  rfl
 refine zP 5 (some 17) #[true,true,true,true,true,true,false,false,true,false,true,false,false,false,false,true,false,false,false,false,false] ?_
 refine zP 6 (some 18) #[true,true,true,true,true,true,true,false,true,false,true,false,false,false,false,true,false,false,false,false,false] ?_
 refine zP 7 (some 19) #[true,true,true,true,true,true,true,true,true,false,true,false,false,false,false,true,false,false,false,false,false] ?_
 refine one_ (i := 9) (N := some 21) #[true, true, true, true, true, true, true, true, true, true, true, false, false, false, false, true, false, false, false, false, false] rfl rfl (one_of HT_.out (by kernel_rfl)) (by decide) (fun K hK => ?_)
 refine goes_ Tryz.func22 (by kernel_rfl) rfl #[.pointer (some ⟨g342, 0, none⟩), .int .i64 4] (by rfl) rfl rfl (by (try simp only [List.map_toArray, List.map_cons, List.map_nil]); first | done | rfl | (simp only [List.length_drop, List.length_take]; rfl)) ?_
 with_reducible refine (spec_l6Rd_pick.calls k g342 t340 t354 4 t355 t356 w _ ?side1 ?side2 A6.out).mono ?_
 (case side1 => repeat (first | (with_reducible first | exact HI342.out | apply IsS76.alloc | apply IsS76.drewN | apply IsS76.drew | apply IsS76.set_1 | refine IsS76.far ?_ NB342_339.out _ | refine IsS76.far ?_ NB342_350.out _) | exact HI342.out))
 (case side2 => repeat (first | (with_reducible first | exact HB.out | apply bA | apply bN | apply bD | refine bS ?_ (IsS76.ge HI342.out) | refine bS ?_ GE339.out | refine bS ?_ GE350.out) | exact HB.out))
 rintro e w22 ⟨rfl, hi, hb, hk⟩
 refine ⟨_, rfl, ?_⟩
 replace BK339 := A0_ (KeepBut.blk hk (g' := gb339) (o := .cells #[.slice none 0 0, .slice none 0 0] 25 (0, 0)) (zK_ BK339) NB339_342.out (by simp))
 replace HO345 := A0_ (Kd.Q_mono (Kd.Q_keep (IsS76.apartQ (show IsS76 w _ g342 t340 t354 from by repeat (first | (with_reducible first | exact HI342.out | apply IsS76.alloc | apply IsS76.drewN | apply IsS76.drew | apply IsS76.set_1 | refine IsS76.far ?_ NB342_339.out _ | refine IsS76.far ?_ NB342_350.out _) | exact HI342.out)) (zQ_ HO345) (by decide)) hk (fun _ h => h.2)) (fun _ h => h.1))
 replace HO348 := A0_ (rM (Kd.R_keep (IsS76.apart (show IsS76 w _ g342 t340 t354 from by repeat (first | (with_reducible first | exact HI342.out | apply IsS76.alloc | apply IsS76.drewN | apply IsS76.drew | apply IsS76.set_1 | refine IsS76.far ?_ NB342_339.out _ | refine IsS76.far ?_ NB342_350.out _) | exact HI342.out)) (zR_ HO348) (by decide)) hk (fun _ h => h.2)) (fun _ h => h.1))
 replace BK350 := A0_ (KeepBut.blk hk (g' := gb350) (o := .cells #[.slice Ao13 t343.length co13, .slice Ao17 t346.length co17] 25 (0, 0)) (zK_ BK350) NB350_342.out (by simp))
 replace HB := A0_ (hb)
 replace HI342 := A0_ (hi)
 (try clear hb); (try clear hb2); (try clear hk); (try clear hi)
 refine hK.out _ _ ⟨(kC BK350.out 0).trans rfl, (kC BK350.out 1).trans rfl⟩ (fun hHeld => ?_)
 clear hK K
 refine norm_ (a' := ?_) ?_ ?_
 rotate_left
 ·show Act.put _ (some 21) _ = _
  simp only [Act.put, List.setIfInBounds_toArray, List.set_cons_zero, List.set_cons_succ, i64_w, i32_w]
  rfl
 refine one_ (i := 11) (N := some 23) #[true, true, true, true, true, true, true, true, true, true, true, true, false, false, false, true, false, false, false, false, false] rfl rfl (one_of HT_.out (by kernel_rfl)) (by decide) (fun K hK => ?_)
 refine goes_ Tryz.func22 (by kernel_rfl) rfl #[.pointer (some ⟨g342, 0, none⟩), .int .i64 20] (by rfl) rfl rfl (by (try simp only [List.map_toArray, List.map_cons, List.map_nil]); first | done | rfl | (simp only [List.length_drop, List.length_take]; rfl)) ?_
 with_reducible refine (spec_l6Rd_pick.calls k g342 t340 t356 20 t357 t358 w _ ?side1 ?side2 A7.out).mono ?_
 (case side1 => repeat (first | (with_reducible first | exact HI342.out | apply IsS76.alloc | apply IsS76.drewN | apply IsS76.drew | apply IsS76.set_1 | refine IsS76.far ?_ NB342_339.out _ | refine IsS76.far ?_ NB342_350.out _) | exact HI342.out))
 (case side2 => repeat (first | (with_reducible first | exact HB.out | apply bA | apply bN | apply bD | refine bS ?_ (IsS76.ge HI342.out) | refine bS ?_ GE339.out | refine bS ?_ GE350.out) | exact HB.out))
 rintro e w23 ⟨rfl, hi, hb, hk⟩
 refine ⟨_, rfl, ?_⟩
 replace BK339 := A0_ (KeepBut.blk hk (g' := gb339) (o := .cells #[.slice none 0 0, .slice none 0 0] 25 (0, 0)) (zK_ BK339) NB339_342.out (by simp))
 replace HO345 := A0_ (Kd.Q_mono (Kd.Q_keep (IsS76.apartQ (show IsS76 w _ g342 t340 t356 from by repeat (first | (with_reducible first | exact HI342.out | apply IsS76.alloc | apply IsS76.drewN | apply IsS76.drew | apply IsS76.set_1 | refine IsS76.far ?_ NB342_339.out _ | refine IsS76.far ?_ NB342_350.out _) | exact HI342.out)) (zQ_ HO345) (by decide)) hk (fun _ h => h.2)) (fun _ h => h.1))
 replace HO348 := A0_ (rM (Kd.R_keep (IsS76.apart (show IsS76 w _ g342 t340 t356 from by repeat (first | (with_reducible first | exact HI342.out | apply IsS76.alloc | apply IsS76.drewN | apply IsS76.drew | apply IsS76.set_1 | refine IsS76.far ?_ NB342_339.out _ | refine IsS76.far ?_ NB342_350.out _) | exact HI342.out)) (zR_ HO348) (by decide)) hk (fun _ h => h.2)) (fun _ h => h.1))
 replace BK350 := A0_ (KeepBut.blk hk (g' := gb350) (o := .cells #[.slice Ao13 t343.length co13, .slice Ao17 t346.length co17] 25 (0, 0)) (zK_ BK350) NB350_342.out (by simp))
 replace HB := A0_ (hb)
 replace HI342 := A0_ (hi)
 (try clear hb); (try clear hb2); (try clear hk); (try clear hi)
 refine hK.out _ _ ⟨(kC BK350.out 0).trans rfl, (kC BK350.out 1).trans rfl⟩ (fun hHeld => ?_)
 clear hK K
 refine norm_ (a' := ?_) ?_ ?_
 rotate_left
 ·show Act.put _ (some 23) _ = _
  simp only [Act.put, List.setIfInBounds_toArray, List.set_cons_zero, List.set_cons_succ, i64_w, i32_w]
  rfl
 refine zP 12 (some 24) #[true,true,true,true,true,true,true,true,true,true,true,true,true,false,false,true,false,false,false,false,false] ?_
 refine zP 13 (some 25) #[true,true,true,true,true,true,true,true,true,true,true,true,true,true,false,true,false,false,false,false,false] ?_
 refine zP 14 (some 26) #[true,true,true,true,true,true,true,true,true,true,true,true,true,true,true,true,false,false,false,false,false] ?_
 refine one_ (i := 16) (N := some 28) #[true, true, true, true, true, true, true, true, true, true, true, true, true, true, true, true, true, false, false, false, false] rfl rfl (one_of HT_.out (by kernel_rfl)) (by decide) (fun K hK => ?_)
 refine goes_ Tryz.func22 (by kernel_rfl) rfl #[.pointer (some ⟨g342, 0, none⟩), .int .i64 4] (by rfl) rfl rfl (by (try simp only [List.map_toArray, List.map_cons, List.map_nil]); first | done | rfl | (simp only [List.length_drop, List.length_take]; rfl)) ?_
 with_reducible refine (spec_l6Rd_pick.calls k g342 t340 t358 4 t359 t360 w _ ?side1 ?side2 A8.out).mono ?_
 (case side1 => repeat (first | (with_reducible first | exact HI342.out | apply IsS76.alloc | apply IsS76.drewN | apply IsS76.drew | apply IsS76.set_1 | refine IsS76.far ?_ NB342_339.out _ | refine IsS76.far ?_ NB342_350.out _) | exact HI342.out))
 (case side2 => repeat (first | (with_reducible first | exact HB.out | apply bA | apply bN | apply bD | refine bS ?_ (IsS76.ge HI342.out) | refine bS ?_ GE339.out | refine bS ?_ GE350.out) | exact HB.out))
 rintro e w24 ⟨rfl, hi, hb, hk⟩
 refine ⟨_, rfl, ?_⟩
 replace BK339 := A0_ (KeepBut.blk hk (g' := gb339) (o := .cells #[.slice none 0 0, .slice none 0 0] 25 (0, 0)) (zK_ BK339) NB339_342.out (by simp))
 replace HO345 := A0_ (Kd.Q_mono (Kd.Q_keep (IsS76.apartQ (show IsS76 w _ g342 t340 t358 from by repeat (first | (with_reducible first | exact HI342.out | apply IsS76.alloc | apply IsS76.drewN | apply IsS76.drew | apply IsS76.set_1 | refine IsS76.far ?_ NB342_339.out _ | refine IsS76.far ?_ NB342_350.out _) | exact HI342.out)) (zQ_ HO345) (by decide)) hk (fun _ h => h.2)) (fun _ h => h.1))
 replace HO348 := A0_ (rM (Kd.R_keep (IsS76.apart (show IsS76 w _ g342 t340 t358 from by repeat (first | (with_reducible first | exact HI342.out | apply IsS76.alloc | apply IsS76.drewN | apply IsS76.drew | apply IsS76.set_1 | refine IsS76.far ?_ NB342_339.out _ | refine IsS76.far ?_ NB342_350.out _) | exact HI342.out)) (zR_ HO348) (by decide)) hk (fun _ h => h.2)) (fun _ h => h.1))
 replace BK350 := A0_ (KeepBut.blk hk (g' := gb350) (o := .cells #[.slice Ao13 t343.length co13, .slice Ao17 t346.length co17] 25 (0, 0)) (zK_ BK350) NB350_342.out (by simp))
 replace HB := A0_ (hb)
 replace HI342 := A0_ (hi)
 (try clear hb); (try clear hb2); (try clear hk); (try clear hi)
 refine hK.out _ _ ⟨(kC BK350.out 0).trans rfl, (kC BK350.out 1).trans rfl⟩ (fun hHeld => ?_)
 clear hK K
 refine norm_ (a' := ?_) ?_ ?_
 rotate_left
 ·show Act.put _ (some 28) _ = _
  simp only [Act.put, List.setIfInBounds_toArray, List.set_cons_zero, List.set_cons_succ, i64_w, i32_w]
  rfl
 refine one_ (i := 17) (N := none) #[true, true, true, true, true, true, true, true, true, true, true, true, true, true, true, true, true, true, false, false, false] rfl rfl (one_of HT_.out (by kernel_rfl)) (by decide) (fun K hK => ?_)
 have hs25 : w24.cell? ⟨gb339, 0, none⟩ = some (.slice none 0 0) := (kC BK339.out 0).trans rfl
 have hfs25 := kF BK339.out 0; have hns25_1 := NB350_339.out; have hms25_1 := NB339_350.out
 have hs26 : w24.cell? ⟨gb339, 1, none⟩ = some (.slice none 0 0) := (kC BK339.out 1).trans rfl
 have hfs26 := kF BK339.out 1; have hns26_1 := NB350_339.out; have hms26_1 := NB339_350.out
 refine skip_ (w1 := ?_) (by rfl) rfl ?_ ?_
 rotate_left
 ·go_simp
  rfl
 refine hK.out _ _ ⟨((cell_far (p := ⟨gb339, _, none⟩) NB350_339.out _).trans (((cell_far (p := ⟨gb339, _, none⟩) NB350_339.out _).trans (hHeld.1)))), ((cell_far (p := ⟨gb339, _, none⟩) NB350_339.out _).trans (((cell_far (p := ⟨gb339, _, none⟩) NB350_339.out _).trans (hHeld.2))))⟩ (fun hHeld => ?_)
 clear hK K
 refine zP 18 (some 3) #[true,true,true,true,true,true,true,true,true,true,true,true,true,true,true,true,true,true,true,false,false] ?_
 refine zP 19 (some 4) #[true,true,true,true,true,true,true,true,true,true,true,true,true,true,true,true,true,true,true,true,false] ?_
 refine zP 20 (some 5) #[true,true,true,true,true,true,true,true,true,true,true,true,true,true,true,true,true,true,true,true,true] ?_
 refine done_ (done_of HT_.out (by kernel_rfl)) ?_
 try go_wp2
 refine bodyPost_ret (results_list (rs := [.cell 2 25, .tmp 3, .tmp 4, .tmp 5]) rfl (by simp) (.cell gb339 25 #[.slice Ao13 t343.length co13, .slice Ao17 t346.length co17] (0, 0) _ rfl (by (with_reducible repeat (first | refine kN ?_ _ | refine kD ?_ | refine kA ?_ _)); refine blk_put (cs := #[.slice Ao13 t343.length co13, .slice none 0 0]) ?_ 1 _ rfl; (with_reducible repeat (first | refine kN ?_ _ | refine kD ?_ | refine kA ?_ _)); refine blk_put (cs := #[.slice none 0 0, .slice none 0 0]) ?_ 0 _ rfl; (with_reducible repeat (first | refine kN ?_ _ | refine kD ?_ | refine kA ?_ _)); exact BK339.out) Tryz.underlying25 rfl (by kernel_rfl) (.tmp (.tmp (.tmp .nil))))) rfl ?_
 exact ⟨_, _, by first | rfl | (simp [*] <;> rfl), by (with_reducible repeat (first | apply Kd.Q_alloc | apply Kd.Q_drewN | apply Kd.Q_drew)); exact Kd.Q_mono (Kd.Q_far (p := ⟨gb339, 1, none⟩) (Kd.Q_far (p := ⟨gb339, 0, none⟩) (Kd.Q_types HO345.out BK339.out (by decide)) (fun _ hk => hk.2) (.slice Ao13 t343.length co13)) (fun _ hk => hk.2) (.slice Ao17 t346.length co17)) (fun _ hk => hk.1), zF HO348 BK339 (.slice Ao13 t343.length co13) (.slice Ao17 t346.length co17) 0 1, by repeat (first | (with_reducible first | exact HB.out | apply bA | apply bN | apply bD | refine bS ?_ (IsS76.ge HI342.out) | refine bS ?_ GE339.out | refine bS ?_ GE350.out) | exact HB.out)⟩

/-! ### spec_l2Copy: function 53 -/
def spec_l2Copy.f (l0 : List Int) : Option (List Int) := (some (([] : List Int) : List Int)).bind fun y361 => (if y361.length + l0.length < 17592186044416 then (some (y361 ++ l0)) else (none))
set_option maxHeartbeats 8000000 in
set_option maxRecDepth 100000 in
theorem spec_l2Copy.calls (A0 : Option Addr) (c0 : Nat) (l0 : List Int) (r : List Int) (w : World) (hr0 : Kd.C (Kd.int .i64) w A0 l0.length l0) (hc0 : l0.length ≤ c0) (h : spec_l2Copy.f l0 = some r) :
    Calls Tryz.prog 53 #[.slice A0 l0.length c0] w fun e w' => ∃ v0_ : Value, e = .returned (v0_) ∧ Kd.R (Kd.int .i64) 3 w' w.heap.size (fun _ => True) v0_ r ∧ Below w.heap.size w w' := by
 have HR0 := A0_ hr0; have HC0 := A0_ hc0; clear hr0 hc0
 have HB := A0_ (Below.refl w.heap.size w)
 have H : ((some (([] : List Int) : List Int)).bind fun y361 => (if y361.length + l0.length < 17592186044416 then (some (y361 ++ l0)) else (none))) = some r := h
 clear h
 obtain ⟨y361, hy361⟩ : ∃ y_ : List Int, y_ = (([] : List Int)) := ⟨_, rfl⟩
 replace H : (if y361.length + l0.length < 17592186044416 then (some (y361 ++ l0)) else (none)) = some r := zH hy361 H
 have Ny361 := A0_ hy361; clear hy361
 by_cases c2 : y361.length + l0.length < 17592186044416
 ·rw [if_pos c2] at H
  have LMc2 := A0_ c2; clear c2
  obtain ⟨y364, hy364⟩ : ∃ y_ : List Int, y_ = (y361 ++ l0) := ⟨_, rfl⟩
  replace H : (some y364) = some r := zH hy364 H
  have Ny364 := A0_ hy364; clear hy364; obtain rfl := sI H
  go_enter Tryz.func53, Tryz.ntmps53
  go_wp2_with (first | ((with_reducible refine gD (N := 3) rfl ?_); refine Kd.R_lit (Kd.int .i64) _ 3 ?hg (N := 3) ?hd (xs := ([] : List Int)) (inner := []) (ok := fun _ => True) (okp := fun _ => True) ?hr ?hp (fun _ hk => hk) trivial (Below.refl _ _) (Nat.le_refl _) (by simp) ?_; (case hd => rfl); (case hg => rfl); (case hr => first | (go_simp; done) | (go_simp; rfl)); (case hp => exact (Reps.none _ _)); intro v362 w3 ho4 hb hg_ hnew_; clear hg_ hnew_; (first | rw [← Ny361.out] at ho4 | (simp only [Int.reduceToNat] at ho4; rw [← Ny361.out] at ho4)); have HO363 := A0_ (rL ho4 (bZ (zB_ HB))); replace HB := zB HB hb; clear hb ho4) | ((with_reducible refine gB (b := .append) (xs := #[.tmp 3, .tmp 4]) rfl ?_); at_builtin; refine Kd.R_append_rows (Kd.int .i64) (w0 := w) w.heap.size rfl (.tmp 3) (.tmp 4) 23 3 (.int .i64 0) 8 rfl Tryz.underlying23 info3 rfl (by decide) (by omega) v362 y361 l0 _ _ _ (fun _ => True) (fun _ => False) rfl rfl ?aO ?aR (fun _ _ h => h) (fun _ h => h.elim) ?aF ?aB ?aS ?aL ?_; (case aR => exact zC HR0 HB); (case aB => exact (zB_ HB)); (case aF => exact (fun _ _ => trivial)); (case aO => exact (zR_ HO363)); (case aS => exact (bZ (zB_ HB))); (case aL => have := LMc2.out; omega); intro v365 w5 ho hb hg hat; rw [← Ny364.out] at ho; replace HB := A0_ (hb); have HO366 := A0_ (ho); clear HO363 ho hb hg hat))
  go_ret
  exact ⟨_, by first | rfl | (simp [*] <;> rfl), zR_ HO366, zB_ HB⟩
 rw [if_neg c2] at H
 exact absurd H (by simp)

/-! ### spec_l7All: function 43 -/
mutual
def spec_l7All.l0 : Nat → Int → List (List Int) → Int → Option ((List (List Int)))
  | 0, _, _, _ => none
  | k + 1, x0, x3, x4 => if x4 < x0 then (spec_l7All.l1 k x0 x3 x4 (x3.length : Int) 0) else (some x3)
def spec_l7All.l1 : Nat → Int → List (List Int) → Int → Int → Int → Option ((List (List Int)))
  | 0, _, _, _, _, _ => none
  | k + 1, x0, x3, x4, x5, x6 => if x6 < x5 then (if 0 ≤ x6 then (if x6 < (x3.length : Int) then ((spec_l2Copy.f (rd_L1 x3 x6)).bind fun t374 => (if t374.length < 17592186044416 then (if x3.length < 5864062014805 then (spec_l7All.l1 k x0 (x3 ++ [(t374 ++ [x4])]) x4 x5 (wrap64 (x6 + 1))) else (none)) else (none))) else (none)) else (none)) else (spec_l7All.l0 k x0 x3 (wrap64 (x4 + 1)))
end
def spec_l7All.f (k : Nat) (a0 : Int) : Option ((List (List Int))) := spec_l7All.l0 k a0 (([(([] : List Int))] : List (List Int))) 0
set_option maxHeartbeats 8000000 in
set_option maxRecDepth 100000 in
theorem spec_l7All.calls (k : Nat) (a0 : Int) (r : List (List Int)) (w : World) (h : spec_l7All.f k a0 = some r) :
    Calls Tryz.prog 43 #[.int .i64 a0] w fun e w' => ∃ v0_ : Value, e = .returned (v0_) ∧ Kd.N (Kd.slice 3 (Kd.int .i64)) 23 w' w.heap.size (fun k_ => (w.heap.size ≤ k_)) v0_ r ∧ Below w.heap.size w w' := by
 have HB := A0_ (Below.refl w.heap.size w)
 have H : (spec_l7All.l0 k a0 (([(([] : List Int))] : List (List Int))) 0) = some r := h
 clear h
 obtain ⟨y367, hy367⟩ : ∃ y_ : List Int, y_ = (([] : List Int)) := ⟨_, rfl⟩
 replace H : (spec_l7All.l0 k a0 (([y367] : List (List Int))) 0) = some r := zH hy367 H
 have Ny367 := A0_ hy367; clear hy367
 obtain ⟨y370, hy370⟩ : ∃ y_ : List (List Int), y_ = (([y367] : List (List Int))) := ⟨_, rfl⟩
 replace H : (spec_l7All.l0 k a0 y370 0) = some r := zH hy370 H
 have Ny370 := A0_ hy370; clear hy370; have H' := A0_ H; clear H
 go_enter Tryz.func43, Tryz.ntmps43
 go_wp2_with (first | ((with_reducible refine gD (N := 7) rfl ?_); refine Kd.R_lit (Kd.int .i64) _ 3 ?hg (N := 7) ?hd (xs := ([] : List Int)) (inner := []) (ok := fun _ => True) (okp := fun _ => True) ?hr ?hp (fun _ hk => hk) trivial (Below.refl _ _) (Nat.le_refl _) (by simp) ?_; (case hd => rfl); (case hg => rfl); (case hr => first | (go_simp; done) | (go_simp; rfl)); (case hp => exact (Reps.none _ _)); intro v368 w2 ho3 hb hg_ hnew_; clear hg_ hnew_; (first | rw [← Ny367.out] at ho3 | (simp only [Int.reduceToNat] at ho3; rw [← Ny367.out] at ho3)); have HO369 := A0_ (rL (Kd.R_newM (M := fun k_ => (w.heap.size ≤ k_)) ho3 (bZ (zB_ HB)) (fun k_ h_ => h_)) (bZ (zB_ HB))); replace HB := zB HB hb; clear hb ho3; obtain ⟨Ao4, co4, eo4⟩ := rS HO369.out; subst eo4) | ((with_reducible refine gD (N := 8) rfl ?_); refine Kd.N_lit (Kd.slice 3 (Kd.int .i64)) _ 23 ?hg (N' := 8) ?hd (xs := ([y367] : List (List Int))) (inner := [.slice Ao4 y367.length co4]) (ok := (fun k_ => (w.heap.size ≤ k_))) (okp := (fun k_ => (w.heap.size ≤ k_))) ?hr ?hp (fun _ hk => hk) ((show ∀ k_, w2.heap.size ≤ k_ → (fun k_ => (w.heap.size ≤ k_)) k_ from fun k_ hk => (Nat.le_trans (bZ (zB_ HB)) hk)) _ (Nat.le_refl _)) (Below.refl _ _) (Nat.le_refl _) (by simp) ?_; (case hd => rfl); (case hg => rfl); (case hr => first | (go_simp; done) | (go_simp; rfl)); (case hp => exact (Reps.one (show Kd.FK (Kd.slice 3 (Kd.int .i64)) _ _ y367 [.slice Ao4 y367.length co4] from (Kd.FK_slice_mk (rR (rM (ok' := (fun k_ => (w.heap.size ≤ k_))) (HO369.out) (fun k_ hk => hk.1))).2.1 (Kd.R_F (rM (ok' := (fun k_ => (w.heap.size ≤ k_))) (HO369.out) (fun k_ hk => hk.1))))) (Reps.none _ _))); intro v371 w5 ho6 hb hg_ hnew_; clear hg_ hnew_; (first | rw [← Ny370.out] at ho6 | (simp only [Int.reduceToNat] at ho6; rw [← Ny370.out] at ho6)); have HO372 := A0_ (Kd.N_lower ho6 (bZ (zB_ HB))); replace HB := zB HB hb; clear HO369 hb ho6))
 go_loopg [3, 4] k (fun kq v3 v4 w' => ∃ (x3_1 : List (List Int)) (x4_1 : Int), v4 = .int .i64 x4_1 ∧ Aside0 (spec_l7All.l0 kq a0 x3_1 x4_1 = some r) ∧ Aside0 (kq ≤ k) ∧ Aside0 (Kd.N (Kd.slice 3 (Kd.int .i64)) 23 w' w.heap.size (fun k_ => (w.heap.size ≤ k_)) v3 x3_1) ∧ Aside0 (Below w.heap.size w w'))
 case atStart => exact ⟨(y370), (0), zt, H', ⟨Nat.le_refl _⟩, ⟨by (with_reducible repeat (first | apply Kd.N_alloc | apply Kd.N_drewN | apply Kd.N_drew)); exact HO372.out⟩, ⟨zB_ HB⟩⟩
 case round =>
  clear H'; (try clear p2); (try clear c4); obtain ⟨x3_1, x4_1, rfl, HA, HK1, HO_3, HB⟩ := hrel
  cases gk with
  | zero => exact absurd HA.out (by simp [spec_l7All.l0])
  | succ k1 =>
   have H := HA.out; clear HA; simp only [spec_l7All.l0] at H
   by_cases c7 : x4_1 < a0
   ·rw [if_pos c7] at H
    have c7b0 := dT c7; clear c7; have H' := A0_ H; clear H; obtain ⟨Ao8, co8, eo8⟩ := Kd.N_slice HO_3.out; subst eo8
    go_wp2
    go_loopg [3, 6] k1 (fun kq v3 v6 w' => ∃ (x3_2 : List (List Int)) (x6_2 : Int), v6 = .int .i64 x6_2 ∧ Aside0 (spec_l7All.l1 kq a0 x3_2 x4_1 (x3_1.length : Int) x6_2 = some r) ∧ Aside0 (kq ≤ k1) ∧ Aside0 (Kd.N (Kd.slice 3 (Kd.int .i64)) 23 w' w.heap.size (fun k_ => (w.heap.size ≤ k_)) v3 x3_2) ∧ Aside0 (Below w.heap.size w w'))
    case atStart => exact ⟨(x3_1), (0), zt, H', ⟨Nat.le_refl _⟩, ⟨by (with_reducible repeat (first | apply Kd.N_alloc | apply Kd.N_drewN | apply Kd.N_drew)); exact HO_3.out⟩, ⟨zB_ HB⟩⟩
    case round =>
     clear H'; (try clear p2); (try clear c4); (try clear c7); (try clear c7b0); (try clear p2); obtain ⟨x3_2, x6_2, rfl, HA, HK2, HO_3, HB⟩ := hrel
     cases gk with
     | zero => exact absurd HA.out (by simp [spec_l7All.l1])
     | succ k2 =>
      have H := HA.out; clear HA; simp only [spec_l7All.l1] at H
      by_cases c9 : x6_2 < (x3_1.length : Int)
      ·rw [if_pos c9] at H
       have c9b0 := dT c9; clear c9
       by_cases c10 : 0 ≤ x6_2
       ·rw [if_pos c10] at H
        have c10b0 := dT c10; clear c10
        by_cases c11 : x6_2 < (x3_2.length : Int)
        ·rw [if_pos c11] at H
         have c11b0 := dT c11; clear c11; obtain ⟨t374, A12, H⟩ := zbind H
         by_cases c13 : t374.length < 17592186044416
         ·rw [if_pos c13] at H
          have LMc13 := A0_ c13; clear c13
          obtain ⟨y377, hy377⟩ : ∃ y_ : List Int, y_ = (t374 ++ [x4_1]) := ⟨_, rfl⟩
          replace H : (if x3_2.length < 5864062014805 then (spec_l7All.l1 k2 a0 (x3_2 ++ [y377]) x4_1 (x3_1.length : Int) (wrap64 (x6_2 + 1))) else (none)) = some r := zH hy377 H
          have Ny377 := A0_ hy377; clear hy377
          by_cases c14 : x3_2.length < 5864062014805
          ·rw [if_pos c14] at H
           have LMc14 := A0_ c14; clear c14
           obtain ⟨y380, hy380⟩ : ∃ y_ : List (List Int), y_ = (x3_2 ++ [y377]) := ⟨_, rfl⟩
           replace H : (spec_l7All.l1 k2 a0 y380 x4_1 (x3_1.length : Int) (wrap64 (x6_2 + 1))) = some r := zH hy380 H
           have Ny380 := A0_ hy380; clear hy380; have H' := A0_ H; clear H; obtain ⟨Ao15, co15, eo15⟩ := Kd.N_slice HO_3.out; subst eo15
           have p373 : 0 ≤ (x6_2 : Int) := zd
           have q373 : x6_2 < (x3_2.length : Int) := zd
           obtain ⟨ad373, A373_0, c373_0, e373, hx373_0, hl373_0, hi373_0⟩ := at_L1 (Kd.N_reads' HO_3.out).2.2 x6_2 p373 q373
           cases e373
           obtain ⟨ce373, hce373, hMe373, hcc373⟩ := Kd.N_get HO_3.out [] x6_2 p373 (by first | exact q373 | exact zd | (have e_ := (Kd.N_reads' HO_3.out).1; omega))
           obtain ⟨ua373_0, uc373_0, rfl, ul373_0, ge373_0⟩ := Kd.FK_slice_open hMe373; have hv373_0 := hcc373 0 _ rfl
           rw [Nat.add_zero, show ((Kd.slice 3 (Kd.int .i64))).sz = 1 from rfl, Nat.mul_one] at hv373_0
           replace hv373_0 := sI (hv373_0.symm.trans hx373_0)
           injection hv373_0 with hva_ hvn_ hvc_
           rw [hva_] at ge373_0; rw [hvc_] at ul373_0
           have HL373_0 := A0_ (show Kd.V (Kd.int .i64) 3 _ w.heap.size _ _ (rd_L1 x3_2 x6_2) from Kd.V_mk ul373_0 ge373_0)
           clear hva_ hvn_ hvc_ ge373_0 ul373_0 hcc373 hce373; have HR373_0 := A0_ hi373_0; have HC373_0 := A0_ hl373_0; clear hi373_0 hl373_0; replace p373 := eq_true p373; replace q373 := eq_true q373
           go_wp2_with (first | ((with_reducible refine gC (f := 53) rfl ?_); refine zJ (some 26) Tryz.func53 #[.slice A373_0 (rd_L1 x3_2 x6_2).length c373_0] ?_; (with_reducible refine (spec_l2Copy.calls _ _ (rd_L1 x3_2 x6_2) t374 _ ?side1 ?side2 A12.out).mono ?_); (case side1 => repeat (first | exact (by repeat (first | (with_reducible exact HR373_0.out) | (with_reducible refine cA ?_ _) | (with_reducible refine cN ?_ _) | (with_reducible refine cD ?_) | exact HR373_0.out)) | (with_reducible refine cA ?_ _) | (with_reducible refine cN ?_ _) | (with_reducible refine cD ?_))); (case side2 => exact HC373_0.out); rintro e w16 ⟨v375, rfl, ho0, hb⟩; refine ⟨_, rfl, ?_⟩; replace HO_3 := A0_ (Kd.N_elder' (by (with_reducible repeat (first | apply Kd.N_alloc | apply Kd.N_drewN | apply Kd.N_drew)); exact HO_3.out) (Kd.R_base ho0) hb); replace HL373_0 := A0_ (Kd.V_elder' (by (with_reducible repeat (first | apply Kd.V_alloc | apply Kd.V_drewN | apply Kd.V_drew)); exact HL373_0.out) (Kd.R_base ho0) hb); have HO376 := A0_ (rL (Kd.R_newM (M := fun k_ => (w.heap.size ≤ k_)) ho0 (bZ (zB_ HB)) (fun k_ h_ => h_)) (bZ (zB_ HB))); replace HR373_0 := A0_ (cB (by repeat (first | (with_reducible exact HR373_0.out) | (with_reducible refine cA ?_ _) | (with_reducible refine cN ?_ _) | (with_reducible refine cD ?_) | exact HR373_0.out)) hb); replace HB := zB HB hb; (try clear hb); (try clear ho0)) | ((with_reducible refine gB (b := .append) (xs := #[.tmp 26, .tmp 28]) rfl ?_); at_builtin; refine Kd.R_append (Kd.int .i64) (w0 := w) w.heap.size rfl (.tmp 26) (.tmp 28) 23 3 (.int .i64 0) 8 rfl Tryz.underlying23 info3 rfl (by decide) (by omega) v375 t374 x4_1 [.int .i64 x4_1] (fun k_ => (w.heap.size ≤ k_)) (fun _ => False) rfl rfl ?aP (fun _ hk => hk.elim) ?aF ?aO ?aB ?aS ?aL ?_; (case aP => exact rfl); (case aB => exact (zB_ HB)); (case aF => exact (fun k_ hk => (Nat.le_trans (bZ (zB_ HB)) hk))); (case aO => exact (zmR HO376 (fun _ hk => hk.1))); (case aS => exact (bZ (zB_ HB))); (case aL => have := LMc13.out; omega); intro v378 w17 ho hb hg hat; rw [← Ny377.out] at ho; replace HO_3 := A0_ (Kd.N_afterv (ok := (fun k_ => (w.heap.size ≤ k_))) (by (with_reducible repeat (first | apply Kd.N_alloc | apply Kd.N_drewN | apply Kd.N_drew)); exact HO_3.out) hg hat); replace HL373_0 := A0_ (Kd.V_afterv (ok := (fun k_ => (w.heap.size ≤ k_) ∧ some k_ ≠ (.slice (some ad373) x3_2.length co15 : Value).ownBlock)) (by (with_reducible repeat (first | apply Kd.V_alloc | apply Kd.V_drewN | apply Kd.V_drew)); exact HL373_0.out) hg hat); replace HB := A0_ (hb); have HO379 := A0_ (ho); clear HO376 ho hb hg hat; obtain ⟨Ao19, co19, eo19⟩ := rS HO379.out; subst eo19) | ((with_reducible refine gB (b := .append) (xs := #[.tmp 21, .tmp 30]) rfl ?_); at_builtin; refine Kd.N_append (Kd.slice 3 (Kd.int .i64)) (w0 := w) w.heap.size rfl (.tmp 21) (.tmp 30) 68 23 (.slice none 0 0) 24 rfl Tryz.underlying68 info23 rfl (by decide) (by omega) (.slice (some ad373) x3_2.length co15) x3_2 y377 [.slice Ao19 y377.length co19] (fun k_ => (w.heap.size ≤ k_)) (fun k_ => ((fun k_ => (w.heap.size ≤ k_))) k_ ∧ some k_ ≠ (.slice (some ad373) x3_2.length co15 : Value).ownBlock) rfl rfl ?aP (fun _ hk => hk) ?aF ?aO ?aB ?aS ?aL ?_; (case aP => exact (Kd.FK_slice_mk (rR (rM (ok' := (fun k_ => ((fun k_ => (w.heap.size ≤ k_))) k_ ∧ some k_ ≠ (.slice (some ad373) x3_2.length co15 : Value).ownBlock)) (Kd.R_apart' (HO379.out) (Kd.N_typed HO_3.out) (by decide)) (fun k_ hk => ⟨hk.1, hk.2⟩))).2.1 (Kd.R_F (rM (ok' := (fun k_ => ((fun k_ => (w.heap.size ≤ k_))) k_ ∧ some k_ ≠ (.slice (some ad373) x3_2.length co15 : Value).ownBlock)) (Kd.R_apart' (HO379.out) (Kd.N_typed HO_3.out) (by decide)) (fun k_ hk => ⟨hk.1, hk.2⟩))))); (case aB => exact (zB_ HB)); (case aF => exact (fun k_ hk => (Nat.le_trans (bZ (zB_ HB)) hk))); (case aO => exact (by (with_reducible repeat (first | apply Kd.N_alloc | apply Kd.N_drewN | apply Kd.N_drew)); exact Kd.N_mono HO_3.out (fun _ hk => hk.1))); (case aS => exact (bZ (zB_ HB))); (case aL => have := LMc14.out; omega); intro v381 w18 ho hb hg hat; rw [← Ny380.out] at ho; replace HL373_0 := A0_ (Kd.V_afterv (ok := (fun k_ => (w.heap.size ≤ k_) ∧ some k_ ≠ (.slice Ao19 y377.length co19 : Value).ownBlock)) (by (with_reducible repeat (first | apply Kd.V_alloc | apply Kd.V_drewN | apply Kd.V_drew)); exact Kd.V_mono HL373_0.out (fun _ hk => ⟨⟨hk.1.1, hk.2⟩, hk.1.2⟩)) hg hat); replace HB := A0_ (hb); have HO382 := A0_ (ho); clear HO_3 HO379 ho hb hg hat))
           go_roundg k2
           case measure => have := HK1.out; have := HK2.out; omega
           case rel => exact ⟨(y380), (wrap64 (x6_2 + 1)), zt, H', ⟨by have := HK1.out; have := HK2.out; omega⟩, ⟨by (with_reducible repeat (first | apply Kd.N_alloc | apply Kd.N_drewN | apply Kd.N_drew)); exact HO382.out⟩, ⟨zB_ HB⟩⟩
          rw [if_neg c14] at H
          exact absurd H (by simp)
         rw [if_neg c13] at H
         exact absurd H (by simp)
        rw [if_neg c11] at H
        exact absurd H (by simp)
       rw [if_neg c10] at H
       exact absurd H (by simp)
      rw [if_neg c9] at H; have c9b0 := dF c9; clear c9; have H' := A0_ H; clear H
      go_wp2
      go_roundg k2
      case measure => have := HK1.out; have := HK2.out; omega
      case rel => exact ⟨(x3_2), (wrap64 (x4_1 + 1)), zt, H', ⟨by have := HK1.out; have := HK2.out; omega⟩, ⟨by (with_reducible repeat (first | apply Kd.N_alloc | apply Kd.N_drewN | apply Kd.N_drew)); exact HO_3.out⟩, ⟨zB_ HB⟩⟩
   rw [if_neg c7] at H; have c7b0 := dF c7; clear c7; obtain rfl := sI H
   go_wp2
   go_ret
   exact ⟨_, by first | rfl | (simp [*] <;> rfl), by (with_reducible repeat (first | apply Kd.N_alloc | apply Kd.N_drewN | apply Kd.N_drew)); exact HO_3.out, zB_ HB⟩

/-! ### spec_l7Edges: function 94 -/
def spec_l7Edges.l0 : Nat → List Int → Int → Int → List Int → List Int → Option (List Int)
  | 0, _, _, _, _, _ => none
  | k + 1, x3, x4, x5, x384000, x384001 => if x5 < (x3.length : Int) then (if 0 ≤ x5 then (if x5 < (x384001.length : Int) then (if x5 < (rd x384001 x5) then (if 0 ≤ (rd x384001 x5) then (if (rd x384001 x5) < (x3.length : Int) then (spec_l7Edges.l0 k ((x3.set (x5 : Int).toNat x4).set ((rd x384001 x5) : Int).toNat x4) (wrap64 (x4 + 1)) (wrap64 (x5 + 1)) x384000 x384001) else (none)) else (none)) else (spec_l7Edges.l0 k x3 x4 (wrap64 (x5 + 1)) x384000 x384001)) else (none)) else (none)) else (some x3)
def spec_l7Edges.f (k : Nat) (l0_0 : List Int) (l0_1 : List Int) : Option (List Int) := if 0 ≤ (l0_1.length : Int) then (if ((l0_1.length : Int) : Int).toNat ≤ 35184372088832 then (spec_l7Edges.l0 k (List.replicate ((l0_1.length : Int) : Int).toNat 0) 0 0 l0_0 l0_1) else (none)) else (none)
set_option maxHeartbeats 8000000 in
set_option maxRecDepth 100000 in
theorem spec_l7Edges.calls (k : Nat) (A0_0 : Option Addr) (c0_0 : Nat) (l0_0 : List Int) (A0_1 : Option Addr) (c0_1 : Nat) (l0_1 : List Int) (r : List Int) (w : World) (hr0_0 : Kd.C (Kd.int .i64) w A0_0 l0_0.length l0_0) (hc0_0 : l0_0.length ≤ c0_0) (hr0_1 : Kd.C (Kd.int .i64) w A0_1 l0_1.length l0_1) (hc0_1 : l0_1.length ≤ c0_1) (h : spec_l7Edges.f k l0_0 l0_1 = some r) :
    Calls Tryz.prog 94 #[.agg #[.slice A0_0 l0_0.length c0_0, .slice A0_1 l0_1.length c0_1]] w fun e w' => ∃ v0_ : Value, e = .returned (v0_) ∧ Kd.R (Kd.int .i64) 3 w' w.heap.size (fun _ => True) v0_ r ∧ Below w.heap.size w w' := by
 have hu25 := Tryz.underlying25; have HR0_0 := A0_ hr0_0; have HC0_0 := A0_ hc0_0; clear hr0_0 hc0_0; have HR0_1 := A0_ hr0_1; have HC0_1 := A0_ hc0_1; clear hr0_1 hc0_1
 have HB := A0_ (Below.refl w.heap.size w)
 have H : (if 0 ≤ (l0_1.length : Int) then (if ((l0_1.length : Int) : Int).toNat ≤ 35184372088832 then (spec_l7Edges.l0 k (List.replicate ((l0_1.length : Int) : Int).toNat 0) 0 0 l0_0 l0_1) else (none)) else (none)) = some r := h
 clear h
 by_cases c2 : 0 ≤ (l0_1.length : Int)
 ·rw [if_pos c2] at H
  have c2b0 := eq_true c2; have c2b1 := dT c2; clear c2
  by_cases c3 : ((l0_1.length : Int) : Int).toNat ≤ 35184372088832
  ·rw [if_pos c3] at H
   have c3b0 := eq_true c3; have c3b1 := dT c3; clear c3
   obtain ⟨y384, hy384⟩ : ∃ y_ : List Int, y_ = (List.replicate ((l0_1.length : Int) : Int).toNat 0) := ⟨_, rfl⟩
   replace H : (spec_l7Edges.l0 k y384 0 0 l0_0 l0_1) = some r := zH hy384 H
   have Ny384 := A0_ hy384; clear hy384; have H' := A0_ H; clear H
   go_enter Tryz.func94, Tryz.ntmps94
   go_wp2_with (first | ((with_reducible refine gD (N := 1) rfl ?_); refine zX (N := 1) (cs := #[.slice A0_0 l0_0.length c0_0, .slice A0_1 l0_1.length c0_1]) (t := 25) ?_; intro gb383 hg w4 hbox hb; have BK383 := A0_ (hbox); have GW383 := zG hg HB; have GE383 := zG hg HB; replace HB := zB HB hb; clear hb hbox hg; have hcz5_0 := zc0 BK383; have hcz5_1 := zc1 BK383; have hfz5_0 := kF BK383.out 0; have hfz5_1 := kF BK383.out 1) | ((with_reducible refine gD (N := 9) rfl ?_); refine Kd.R_make (Kd.int .i64) _ 3 rfl (N := 9) rfl 23 _ _ rfl (l0_1.length : Int) rfl rfl Tryz.underlying23 (.int .i64 0) 8 info3 rfl (by decide) (by omega) 0 (ok := fun _ => True) (okp := fun _ => True) rfl (fun _ hk => hk) trivial (zd) (Nat.le_trans (Nat.mul_le_mul_right _ (zd : (l0_1.length : Int).toNat ≤ 35184372088832)) (by omega)) (Below.refl _ _) (Nat.le_refl _) ?_; intro v385 w6 ho7 hb hg_ hnew_; clear hg_ hnew_; (first | rw [← Ny384.out] at ho7 | (simp only [Int.reduceToNat] at ho7; rw [← Ny384.out] at ho7)); have HO386 := A0_ (rL ho7 (bZ (zB_ HB))); replace BK383 := zK BK383 hb; replace HB := zB HB hb; clear hb ho7))
   go_loopg [4, 5] k (fun kq v4 v5 w' => ∃ (x3_1 : List Int) (x4_1 : Int) (x5_1 : Int), v4 = .int .i64 x4_1 ∧ v5 = .int .i64 x5_1 ∧ Aside0 (spec_l7Edges.l0 kq x3_1 x4_1 x5_1 l0_0 l0_1 = some r) ∧ Aside0 (kq ≤ k) ∧ Aside0 (Kd.R (Kd.int .i64) 3 w' w.heap.size (fun _ => True) v385 x3_1) ∧ Aside0 (w'.heap[gb383]? = some (.cells #[(.slice A0_0 l0_0.length c0_0), (.slice A0_1 l0_1.length c0_1)] 25 (0, 0))) ∧ Aside0 (Below w.heap.size w w'))
   case atStart => exact ⟨(y384), (0), (0), zt, zt, H', ⟨Nat.le_refl _⟩, ⟨zR_ HO386⟩, ⟨zK_ BK383⟩, ⟨zB_ HB⟩⟩
   case round =>
    clear H'; (try clear c2); (try clear c2b0); (try clear c2b1); (try clear p2); (try clear c3); (try clear c3b0); (try clear c3b1); (try clear hcz5_0); (try clear hcz5_1); (try clear hfz5_0); (try clear hfz5_1); obtain ⟨x3_1, x4_1, x5_1, rfl, rfl, HA, HK1, HO_3, BK383, HB⟩ := hrel
    cases gk with
    | zero => exact absurd HA.out (by simp [spec_l7Edges.l0])
    | succ k1 =>
     have H := HA.out; clear HA; simp only [spec_l7Edges.l0] at H
     by_cases c8 : x5_1 < (x3_1.length : Int)
     ·rw [if_pos c8] at H
      have c8b0 := dT c8; clear c8
      by_cases c9 : 0 ≤ x5_1
      ·rw [if_pos c9] at H
       have c9b0 := dT c9; clear c9
       by_cases c10 : x5_1 < (l0_1.length : Int)
       ·rw [if_pos c10] at H
        have c10b0 := dT c10; clear c10
        by_cases c11 : x5_1 < (rd l0_1 x5_1)
        ·rw [if_pos c11] at H
         have c11b0 := dT c11; clear c11
         obtain ⟨y388, hy388⟩ : ∃ y_ : List Int, y_ = (x3_1.set (x5_1 : Int).toNat x4_1) := ⟨_, rfl⟩
         replace H : (if 0 ≤ (rd l0_1 x5_1) then (if (rd l0_1 x5_1) < (x3_1.length : Int) then (spec_l7Edges.l0 k1 (y388.set ((rd l0_1 x5_1) : Int).toNat x4_1) (wrap64 (x4_1 + 1)) (wrap64 (x5_1 + 1)) l0_0 l0_1) else (none)) else (none)) = some r := zH hy388 H
         have Ny388 := A0_ hy388; clear hy388
         by_cases c13 : 0 ≤ (rd l0_1 x5_1)
         ·rw [if_pos c13] at H
          have c13b0 := dT c13; clear c13
          by_cases c14 : (rd l0_1 x5_1) < (x3_1.length : Int)
          ·rw [if_pos c14] at H
           have c14b0 := dT c14; clear c14
           obtain ⟨y390, hy390⟩ : ∃ y_ : List Int, y_ = (y388.set ((rd l0_1 x5_1) : Int).toNat x4_1) := ⟨_, rfl⟩
           replace H : (spec_l7Edges.l0 k1 y390 (wrap64 (x4_1 + 1)) (wrap64 (x5_1 + 1)) l0_0 l0_1) = some r := zH hy390 H
           have Ny390 := A0_ hy390; clear hy390; have H' := A0_ H; clear H; obtain ⟨Ao16, co16, eo16⟩ := rS HO_3.out; subst eo16; have hcz17_0 := zc0 BK383; have hcz17_1 := zc1 BK383; have hfz17_0 := kF BK383.out 0; have hfz17_1 := kF BK383.out 1
           have p387 : 0 ≤ (x5_1 : Int) := zd
           have q387 : x5_1 < (l0_1.length : Int) := zd
           obtain ⟨ad387, e387, hx387_0⟩ := tI HR0_1.out x5_1 p387 q387
           cases e387
           try replace hx387_0 := (HB.out.cell (wL w _ hx387_0)).trans hx387_0
           replace p387 := eq_true p387; replace q387 := eq_true q387
           have p12 : 0 ≤ (x5_1 : Int) := zd
           have q12 : (x5_1 : Int) < ((x3_1.length : Int) : Int) := zd
           obtain ⟨go12, co12, eo12, gb12, gl12, cl12, HG12⟩ := Kd.R_form HO_3.out (by omega)
           (first | cases eo12 | (injection eo12 with ea_ en_ ec_; (first | subst ea_ | (injection ea_ with ea_; subst ea_)); subst ec_; clear en_))
           have GB12 := A0_ gb12; have GG12 := A0_ HG12; clear gb12 gl12 HG12
           obtain ⟨hx12_0, hf12_0⟩ := Kd.R_celln 0 HO_3.out (x5_1 : Int) p12 q12
           replace p12 := eq_true p12; replace q12 := eq_true q12
           have HP18 := Kd.R_putg HO_3.out (x5_1 : Int) x4_1
           go_wp2_with (first | ((with_reducible refine gS (t := 3) (p := 26) rfl ?_); refine store_event (t := 3) (p := 26) (v := ?vo_w19) (w1 := (wr.setCell ⟨go12, (x5_1 : Int).toNat, none⟩ (.int .i64 x4_1))) ?hg ?ho ?hn ?hr ?_; (case ho => rfl); (case hg => rfl); (case hn => rfl); (case hr => first | (go_simp; done) | (go_simp; rfl)); intro w19 hw; have hg : wr.grownBy w19 (some go12) := (by rw [hw]; exact HP18.2); have hp_ : Kd.R (Kd.int .i64) 3 w19 w.heap.size (fun _ => True) (.slice (some ⟨go12, 0, none⟩) x3_1.length co16) y388 := (by rw [hw, Ny388.out]; exact HP18.1); clear HP18; replace BK383 := A0_ (blk_grown (g := gb383) (o := .cells #[.slice A0_0 l0_0.length c0_0, .slice (some ad387) l0_1.length c0_1] 25 (0, 0)) (zK_ BK383) hg (Kd.R_ne HO_3.out BK383.out (by decide))); replace HO_3 := A0_ (hp_); replace HB := A0_ ((by rw [hw]; exact bS (HB.out) GB12.out : Below w.heap.size w w19)); clear hg hw hp_; have hcz20_0 := zc0 BK383; have hcz20_1 := zc1 BK383; have hfz20_0 := kF BK383.out 0; have hfz20_1 := kF BK383.out 1; have p389 : 0 ≤ (x5_1 : Int) := zd; have q389 : x5_1 < (l0_1.length : Int) := zd; obtain ⟨ad389, e389, hx389_0⟩ := tI HR0_1.out x5_1 p389 q389; obtain rfl : ad387 = ad389 := (by injection e389); try replace hx389_0 := (HB.out.cell (wL w _ hx389_0)).trans hx389_0; replace p389 := eq_true p389; replace q389 := eq_true q389; have p15 : 0 ≤ ((rd l0_1 x5_1) : Int) := zd; have q15 : ((rd l0_1 x5_1) : Int) < ((x3_1.length : Int) : Int) := zd; obtain ⟨hx15_0, hf15_0⟩ := Kd.R_celln 0 HO_3.out ((rd l0_1 x5_1) : Int) p15 q15; replace p15 := eq_true p15; replace q15 := eq_true q15; obtain ⟨hy21_, hz21_⟩ := Kd.R_celln 0 HO_3.out ((rd l0_1 x5_1) : Int) (zd) (zd); have HP21 := Kd.R_putg HO_3.out ((rd l0_1 x5_1) : Int) x4_1) | ((with_reducible refine gS (t := 3) (p := 34) rfl ?_); refine store_event (t := 3) (p := 34) (v := ?vo_w22) (w1 := (w19.setCell ⟨go12, ((rd l0_1 x5_1) : Int).toNat, none⟩ (.int .i64 x4_1))) ?hg ?ho ?hn ?hr ?_; (case ho => rfl); (case hg => rfl); (case hn => rfl); (case hr => first | (go_simp; done) | (go_simp; rfl)); intro w22 hw; have hg : w19.grownBy w22 (some go12) := (by rw [hw]; exact HP21.2); have hp_ : Kd.R (Kd.int .i64) 3 w22 w.heap.size (fun _ => True) (.slice (some ⟨go12, 0, none⟩) x3_1.length co16) y390 := (by rw [hw, Ny390.out]; exact HP21.1); clear HP21; replace BK383 := A0_ (blk_grown (g := gb383) (o := .cells #[.slice A0_0 l0_0.length c0_0, .slice (some ad387) l0_1.length c0_1] 25 (0, 0)) (zK_ BK383) hg (Kd.R_ne HO_3.out BK383.out (by decide))); replace HO_3 := A0_ (hp_); replace HB := A0_ ((by rw [hw]; exact bS (HB.out) GB12.out : Below w.heap.size w w22)); clear hg hw hp_))
           go_roundg k1
           case measure => have := HK1.out; omega
           case rel => exact ⟨(y390), (wrap64 (x4_1 + 1)), (wrap64 (x5_1 + 1)), zt, zt, H', ⟨by have := HK1.out; omega⟩, ⟨zR_ HO_3⟩, ⟨zK_ BK383⟩, ⟨zB_ HB⟩⟩
          rw [if_neg c14] at H
          exact absurd H (by simp)
         rw [if_neg c13] at H
         exact absurd H (by simp)
        rw [if_neg c11] at H; have c11b0 := dF c11; clear c11; have H' := A0_ H; clear H; obtain ⟨Ao23, co23, eo23⟩ := rS HO_3.out; subst eo23; have hcz24_0 := zc0 BK383; have hcz24_1 := zc1 BK383; have hfz24_0 := kF BK383.out 0; have hfz24_1 := kF BK383.out 1
        have p387 : 0 ≤ (x5_1 : Int) := zd
        have q387 : x5_1 < (l0_1.length : Int) := zd
        obtain ⟨ad387, e387, hx387_0⟩ := tI HR0_1.out x5_1 p387 q387
        cases e387
        try replace hx387_0 := (HB.out.cell (wL w _ hx387_0)).trans hx387_0
        replace p387 := eq_true p387; replace q387 := eq_true q387
        go_wp2
        go_roundg k1
        case measure => have := HK1.out; omega
        case rel => exact ⟨(x3_1), (x4_1), (wrap64 (x5_1 + 1)), zt, zt, H', ⟨by have := HK1.out; omega⟩, ⟨zR_ HO_3⟩, ⟨zK_ BK383⟩, ⟨zB_ HB⟩⟩
       rw [if_neg c10] at H
       exact absurd H (by simp)
      rw [if_neg c9] at H
      exact absurd H (by simp)
     rw [if_neg c8] at H; have c8b0 := dF c8; clear c8; obtain rfl := sI H; obtain ⟨Ao25, co25, eo25⟩ := rS HO_3.out; subst eo25
     go_wp2
     go_ret
     exact ⟨_, by first | rfl | (simp [*] <;> rfl), zR_ HO_3, zB_ HB⟩
  rw [if_neg c3] at H
  exact absurd H (by simp)
 rw [if_neg c2] at H
 exact absurd H (by simp)

/-! ### spec_l7Has: function 118 -/
def spec_l7Has.l0 : Nat → List Int → Int → Int → Option (Bool)
  | 0, _, _, _ => none
  | k + 1, x0, x1, x5 => if x5 < (x0.length : Int) then (if 0 ≤ x5 then (if (rd x0 x5) = x1 then (some true) else (spec_l7Has.l0 k x0 x1 (wrap64 (x5 + 1)))) else (none)) else (some false)
def spec_l7Has.f (k : Nat) (l0 : List Int) (a1 : Int) : Option (Bool) := spec_l7Has.l0 k l0 a1 0
set_option maxHeartbeats 8000000 in
set_option maxRecDepth 100000 in
theorem spec_l7Has.calls (k : Nat) (A0 : Option Addr) (c0 : Nat) (l0 : List Int) (a1 : Int) (r : Bool) (w : World) (hr0 : Kd.C (Kd.int .i64) w A0 l0.length l0) (hc0 : l0.length ≤ c0) (h : spec_l7Has.f k l0 a1 = some r) :
    Calls Tryz.prog 118 #[.slice A0 l0.length c0, .int .i64 a1] w fun e w' => e = .returned (.bool r) ∧ Drawn0 w w' := by
 have HR0 := A0_ hr0; have HC0 := A0_ hc0; clear hr0 hc0
 have H : (spec_l7Has.l0 k l0 a1 0) = some r := h
 clear h; have H' := A0_ H; clear H
 go_enter Tryz.func118, Tryz.ntmps118
 go_wp2
 go_loopg [5] k (fun kq v5 w' => ∃ (x5_1 : Int), v5 = .int .i64 x5_1 ∧ Aside0 (spec_l7Has.l0 kq l0 a1 x5_1 = some r) ∧ Aside0 (kq ≤ k) ∧ Drawn0 w w')
 case atStart => exact ⟨(0), zt, H', ⟨Nat.le_refl _⟩, by repeat (first | exact Drawn0.refl _ | apply Drawn0.step)⟩
 case round =>
  clear H'; (try clear c1); (try clear p2); obtain ⟨x5_1, rfl, HA, HK1, ⟨m1, rfl⟩⟩ := hrel
  cases gk with
  | zero => exact absurd HA.out (by simp [spec_l7Has.l0])
  | succ k1 =>
   have H := HA.out; clear HA; simp only [spec_l7Has.l0] at H
   by_cases c3 : x5_1 < (l0.length : Int)
   ·rw [if_pos c3] at H
    have c3b0 := dT c3; clear c3
    by_cases c4 : 0 ≤ x5_1
    ·rw [if_pos c4] at H
     have c4b0 := dT c4; clear c4
     by_cases c5 : (rd l0 x5_1) = a1
     ·rw [if_pos c5] at H
      have c5b0 : ((rd l0 x5_1) == a1) = true := beq_iff_eq.mpr c5
      have c5b1 : ((rd l0 x5_1) != a1) = false := bne_eq_false_iff_eq.mpr c5
      clear c5; obtain rfl := sI H
      have p391 : 0 ≤ (x5_1 : Int) := zd
      have q391 : x5_1 < (l0.length : Int) := zd
      obtain ⟨ad391, e391, hx391_0⟩ := tI HR0.out x5_1 p391 q391
      cases e391
      replace p391 := eq_true p391; replace q391 := eq_true q391
      go_wp2
      go_ret
      exact ⟨by first | rfl | (simp; done) | (simp [*]; done), by repeat (first | exact Drawn0.refl _ | apply Drawn0.step)⟩
     rw [if_neg c5] at H
     have c5b0 : ((rd l0 x5_1) == a1) = false := beq_eq_false_iff_ne.mpr c5
     have c5b1 : ((rd l0 x5_1) != a1) = true := bne_iff_ne.mpr c5
     have H' := A0_ H; clear H
     have p391 : 0 ≤ (x5_1 : Int) := zd
     have q391 : x5_1 < (l0.length : Int) := zd
     obtain ⟨ad391, e391, hx391_0⟩ := tI HR0.out x5_1 p391 q391
     cases e391
     replace p391 := eq_true p391; replace q391 := eq_true q391
     go_wp2
     go_roundg k1
     case measure => have := HK1.out; omega
     case rel => exact ⟨(wrap64 (x5_1 + 1)), zt, H', ⟨by have := HK1.out; omega⟩, by repeat (first | exact Drawn0.refl _ | apply Drawn0.step)⟩
    rw [if_neg c4] at H
    exact absurd H (by simp)
   rw [if_neg c3] at H; have c3b0 := dF c3; clear c3; obtain rfl := sI H
   go_wp2
   go_ret
   exact ⟨by first | rfl | (simp; done) | (simp [*]; done), by repeat (first | exact Drawn0.refl _ | apply Drawn0.step)⟩

end Go.Proofs.YtjebcgbmlbemcaaGreatDoor.PFnExecuteValue
