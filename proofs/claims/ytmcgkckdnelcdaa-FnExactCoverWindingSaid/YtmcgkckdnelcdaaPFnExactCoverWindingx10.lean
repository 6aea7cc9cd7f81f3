-- Made by a program of this session (wip/tools) out of the loaded program; not trusted: Lean checks it.
import Derived.Test.YtmcgkckdnelcdaaPFnExactCoverWindingx0
import Derived.Test.YtmcgkckdnelcdaaPFnExactCoverWindingx1
import Derived.Test.YtmcgkckdnelcdaaPFnExactCoverWindingx2
import Derived.Test.YtmcgkckdnelcdaaPFnExactCoverWindingx5
import Derived.Test.YtmcgkckdnelcdaaPFnExactCoverWindingx9
namespace Go.Proofs.Ytmcgkckdnelcdaa.PFnExactCoverWinding
open Go.RowKit Go.Proofs.YtmcgkckdnelcdaaW.PrintWords Go.Proofs.YtmcgkckdnelcdaaW.PrintLast Go.Proofs.YtmcgkckdnelcdaaW.PrintMore
attribute [local go_sem] max2_int min2_int max_two min_two max_three min_three max_four min_four   -- for this text's walks alone
set_option linter.unusedVariables false
set_option linter.unusedSimpArgs false

/-! ### laws_FnExactCoverWinding: function 10 -/
mutual
def laws_FnExactCoverWinding.j0 : Nat → Int → List (List Int) → Int → List Int → Bool → List (List Int) → List Int → Bool → Bool → List Int → List Int → List Int → List Int → Option (Bool)
  | 0, _, _, _, _, _, _, _, _, _, _, _, _, _ => none
  | k + 1, x1, x2, x3, x10, x11, x13, x14, x15, x61, x390000, x390001, x412000, x412001 => if x61 = true then (some false) else ((laws_toMap.f k x390000 x390001).bind fun bt420 => ((laws_eqMap.f k x412000 x412001 bt420.1 bt420.2).bind fun t426 => (if t426 = true then ((laws_toIntSS.f k x2).bind fun t427 => ((laws_eqIntSS.f k x13 t427).bind fun t430 => (if t430 = true then ((laws_markMap.f k x412000 x412001 1).bind fun bt431 => ((laws_markIntSS.f k x13 bt431.1).bind fun t434 => (if t434 < 0 then (laws_FnExactCoverWinding.j1 k x1 x2 x3 x10 x11 x14 true x390000 x390001) else ((laws_eqIntS.f k x14 x10).bind fun t435 => (if t435 = true then (laws_FnExactCoverWinding.j1 k x1 x2 x3 x10 x11 x14 (x15 != x11) x390000 x390001) else (laws_FnExactCoverWinding.j1 k x1 x2 x3 x10 x11 x14 true x390000 x390001)))))) else (some false)))) else (some false))))
def laws_FnExactCoverWinding.j1 : Nat → Int → List (List Int) → Int → List Int → Bool → List Int → Bool → List Int → List Int → Option (Bool)
  | 0, _, _, _, _, _, _, _, _, _ => none
  | k + 1, x1, x2, x3, x10, x11, x14, x90, x390000, x390001 => if x90 = true then (some false) else ((laws_markIntS.f k x14 1).bind fun bt436 => ((laws_heldIntS.f k bt436.2 1).bind fun t438 => (if t438 < 0 then (some false) else (if t438 = bt436.1 then ((laws_toMap.f k x390000 x390001).bind fun bt439 => ((laws_toIntSS.f k x2).bind fun t445 => ((impl_CoverWinding.f k bt439.1 bt439.2 x1 t445 x3).bind fun bt448 => ((laws_eqIntS.f k bt448.1 x10).bind fun t452 => (if t452 = true then (laws_FnExactCoverWinding.j2 k bt436.2 bt436.1 (bt448.2 != x11)) else (laws_FnExactCoverWinding.j2 k bt436.2 bt436.1 true)))))) else (some false)))))
def laws_FnExactCoverWinding.j2 : Nat → List Int → Int → Bool → Option (Bool)
  | 0, _, _, _ => none
  | k + 1, x14, x17, x120 => if x120 = true then (some false) else ((laws_heldIntS.f k x14 1).bind fun t453 => (if t453 < 0 then (some false) else (if t453 = x17 then (some true) else (some false))))
end
def laws_FnExactCoverWinding.f (k : Nat) (l0_0 : List Int) (l0_1 : List Int) (a1 : Int) (l2 : List (List Int)) (a3 : Int) : Option (Bool) := (laws_szMap.f l0_0 l0_1 1048576).bind fun t390 => (if t390 < 0 then (some true) else ((laws_szIntSS.f k l2 t390).bind fun t391 => (if t391 < 0 then (some true) else ((laws_toMap.f k l0_0 l0_1).bind fun bt392 => ((laws_toIntSS.f k l2).bind fun t398 => ((spec_CoverWinding.f k bt392.1 bt392.2 a1 t398 a3).bind fun bt401 => ((laws_toMap.f k l0_0 l0_1).bind fun bt405 => ((laws_toIntSS.f k l2).bind fun t412 => ((impl_CoverWinding.f k bt405.1 bt405.2 a1 t412 a3).bind fun bt415 => ((laws_eqIntS.f k bt415.1 bt401.1).bind fun t419 => (if t419 = true then (laws_FnExactCoverWinding.j0 k a1 l2 a3 bt401.1 bt401.2 t412 bt415.1 bt415.2 (bt415.2 != bt401.2) l0_0 l0_1 bt405.1 bt405.2) else (laws_FnExactCoverWinding.j0 k a1 l2 a3 bt401.1 bt401.2 t412 bt415.1 bt415.2 true l0_0 l0_1 bt405.1 bt405.2))))))))))))
set_option maxHeartbeats 8000000 in
set_option maxRecDepth 100000 in
theorem laws_FnExactCoverWinding.calls (k : Nat) (A0_0 : Option Addr) (c0_0 : Nat) (l0_0 : List Int) (A0_1 : Option Addr) (c0_1 : Nat) (l0_1 : List Int) (a1 : Int) (A2 : Option Addr) (c2 : Nat) (l2 : List (List Int)) (a3 : Int) (r : Bool) (w : World) (hr0_0 : Kd.C (Kd.int .i64) w A0_0 l0_0.length l0_0) (hc0_0 : l0_0.length ≤ c0_0) (hr0_1 : Kd.C (Kd.int .i64) w A0_1 l0_1.length l0_1) (hc0_1 : l0_1.length ≤ c0_1) (hr2 : Kd.C (Kd.slice 3 (Kd.int .i64)) w A2 l2.length l2) (hc2 : l2.length ≤ c2) (h : laws_FnExactCoverWinding.f k l0_0 l0_1 a1 l2 a3 = some r) :
    Calls Try.prog 10 #[.agg #[.slice A0_0 l0_0.length c0_0, .slice A0_1 l0_1.length c0_1], .int .i64 a1, .slice A2 l2.length c2, .int .i64 a3] w fun e w' => e = .returned (.bool r) ∧ Below w.heap.size w w' := by
 have hu24 := Try.underlying24
 have hu29 := Try.underlying29
 have HR0_0 := Aside0.mk hr0_0
 have HC0_0 := Aside0.mk hc0_0
 clear hr0_0 hc0_0
 have HR0_1 := Aside0.mk hr0_1
 have HC0_1 := Aside0.mk hc0_1
 clear hr0_1 hc0_1
 have HR2 := Aside0.mk hr2
 have HC2 := Aside0.mk hc2
 clear hr2 hc2
 have HB := Aside0.mk (Below.refl w.heap.size w)
 have H : ((laws_szMap.f l0_0 l0_1 1048576).bind fun t390 => (if t390 < 0 then (some true) else ((laws_szIntSS.f k l2 t390).bind fun t391 => (if t391 < 0 then (some true) else ((laws_toMap.f k l0_0 l0_1).bind fun bt392 => ((laws_toIntSS.f k l2).bind fun t398 => ((spec_CoverWinding.f k bt392.1 bt392.2 a1 t398 a3).bind fun bt401 => ((laws_toMap.f k l0_0 l0_1).bind fun bt405 => ((laws_toIntSS.f k l2).bind fun t412 => ((impl_CoverWinding.f k bt405.1 bt405.2 a1 t412 a3).bind fun bt415 => ((laws_eqIntS.f k bt415.1 bt401.1).bind fun t419 => (if t419 = true then (laws_FnExactCoverWinding.j0 k a1 l2 a3 bt401.1 bt401.2 t412 bt415.1 bt415.2 (bt415.2 != bt401.2) l0_0 l0_1 bt405.1 bt405.2) else (laws_FnExactCoverWinding.j0 k a1 l2 a3 bt401.1 bt401.2 t412 bt415.1 bt415.2 true l0_0 l0_1 bt405.1 bt405.2))))))))))))) = some r := h
 clear h
 replace H := Option.bind_eq_some_iff.mp H
 obtain ⟨t390, A50, H⟩ := H
 replace H : (if t390 < 0 then (some true) else ((laws_szIntSS.f k l2 t390).bind fun t391 => (if t391 < 0 then (some true) else ((laws_toMap.f k l0_0 l0_1).bind fun bt392 => ((laws_toIntSS.f k l2).bind fun t398 => ((spec_CoverWinding.f k bt392.1 bt392.2 a1 t398 a3).bind fun bt401 => ((laws_toMap.f k l0_0 l0_1).bind fun bt405 => ((laws_toIntSS.f k l2).bind fun t412 => ((impl_CoverWinding.f k bt405.1 bt405.2 a1 t412 a3).bind fun bt415 => ((laws_eqIntS.f k bt415.1 bt401.1).bind fun t419 => (if t419 = true then (laws_FnExactCoverWinding.j0 k a1 l2 a3 bt401.1 bt401.2 t412 bt415.1 bt415.2 (bt415.2 != bt401.2) l0_0 l0_1 bt405.1 bt405.2) else (laws_FnExactCoverWinding.j0 k a1 l2 a3 bt401.1 bt401.2 t412 bt415.1 bt415.2 true l0_0 l0_1 bt405.1 bt405.2)))))))))))) = some r := H
 have A5 := Aside0.mk A50
 clear A50
 by_cases c6 : t390 < 0
 ·rw [if_pos c6] at H
  have c6b0 : decide (t390 < 0) = true := decide_eq_true c6
  clear c6
  obtain rfl := Option.some.inj H
  go_enter Try.func10, Try.ntmps10
  go_wp2_with (first | ((with_reducible refine gate_dst (N := 4) rfl ?_); refine box_event ?hg (N := 4) ?hd (cs := #[.slice A0_0 l0_0.length c0_0, .slice A0_1 l0_1.length c0_1]) (t := 24) ?hr ?_; (case hd => rfl); (case hg => rfl); (case hr => first | (go_simp; done) | (go_simp; rfl)); intro gb389 hg w7 hbox hb; have n0_ := Aside0.mk (below_step (by repeat (first | (with_reducible first | exact HB.out | apply below_alloc | apply pw_below_drewN | apply below_drew1) | exact HB.out)) hb); have n1_ := Aside0.mk (hbox); have n2_ := Aside0.mk ((by rw [hg]; exact (below_size (by repeat (first | (with_reducible first | exact HB.out | apply below_alloc | apply pw_below_drewN | apply below_drew1) | exact HB.out))) : w.heap.size ≤ gb389)); have n3_ := Aside0.mk ((by rw [hg]; exact (below_size (by repeat (first | (with_reducible first | exact HB.out | apply below_alloc | apply pw_below_drewN | apply below_drew1) | exact HB.out))) : w.heap.size ≤ gb389)); clear HB; have HB := n0_; have BK389 := n1_; have GW389 := n2_; have GE389 := n3_; clear n0_ n1_ n2_ n3_; clear hb hbox hg; have hcz8_0 : w7.cell? ⟨gb389, 0, none⟩ = some (.slice A0_0 l0_0.length c0_0) := (blk_cell BK389.out 0).trans rfl; have hcz8_1 : w7.cell? ⟨gb389, 1, none⟩ = some (.slice A0_1 l0_1.length c0_1) := (blk_cell BK389.out 1).trans rfl; have hfz8_0 := blk_frozen BK389.out 0; have hfz8_1 := blk_frozen BK389.out 1) | ((with_reducible refine gate_callee (f := 15) rfl ?_); refine goesL_ (some 23) rfl rfl Try.func15 (by kernel_rfl) rfl #[.agg #[.slice A0_0 l0_0.length c0_0, .slice A0_1 l0_1.length c0_1], .int .i64 1048576] rfl (by (try simp only [List.map_toArray, List.map_cons, List.map_nil]); first | done | rfl | (simp only [List.length_drop, List.length_take]; rfl)) ?_; (with_reducible refine (laws_szMap.calls _ _ l0_0 _ _ l0_1 1048576 t390 _ ?side1 ?side2 ?side3 ?side4 A5.out).mono ?_); (case side1 => repeat (first | exact (Kd.C_below HR0_0.out HB.out) | (with_reducible refine Kd.C_alloc ?_ _))); (case side2 => exact HC0_0.out); (case side3 => repeat (first | exact (Kd.C_below HR0_1.out HB.out) | (with_reducible refine Kd.C_alloc ?_ _))); (case side4 => exact HC0_1.out); rintro e w9 ⟨rfl, hb⟩; refine ⟨_, rfl, ?_⟩; have n0_ := Aside0.mk (blk_below (g := gb389) (o := .cells #[.slice A0_0 l0_0.length c0_0, .slice A0_1 l0_1.length c0_1] 24 (0, 0)) (by (with_reducible repeat refine blk_alloc ?_ _); exact BK389.out) hb); have n1_ := Aside0.mk (below_step (by repeat (first | (with_reducible first | exact HB.out | apply below_alloc | apply pw_below_drewN | apply below_drew1 | refine below_set ?_ GE389.out) | exact HB.out)) hb); clear BK389; clear HB; have BK389 := n0_; have HB := n1_; clear n0_ n1_; (try clear hb); (try clear hb2); (try clear hk); (try clear hi)))
  go_ret
  exact ⟨by first | rfl | (simp [errW_none, errW_some] <;> rfl) | (simp [*, errW_none, errW_some] <;> rfl), by repeat (first | (with_reducible first | exact HB.out | apply below_alloc | apply pw_below_drewN | apply below_drew1 | refine below_set ?_ GE389.out) | exact HB.out)⟩
 ·rw [if_neg c6] at H
  have c6b0 : decide (t390 < 0) = false := decide_eq_false c6
  clear c6
  replace H := Option.bind_eq_some_iff.mp H
  obtain ⟨t391, A100, H⟩ := H
  replace H : (if t391 < 0 then (some true) else ((laws_toMap.f k l0_0 l0_1).bind fun bt392 => ((laws_toIntSS.f k l2).bind fun t398 => ((spec_CoverWinding.f k bt392.1 bt392.2 a1 t398 a3).bind fun bt401 => ((laws_toMap.f k l0_0 l0_1).bind fun bt405 => ((laws_toIntSS.f k l2).bind fun t412 => ((impl_CoverWinding.f k bt405.1 bt405.2 a1 t412 a3).bind fun bt415 => ((laws_eqIntS.f k bt415.1 bt401.1).bind fun t419 => (if t419 = true then (laws_FnExactCoverWinding.j0 k a1 l2 a3 bt401.1 bt401.2 t412 bt415.1 bt415.2 (bt415.2 != bt401.2) l0_0 l0_1 bt405.1 bt405.2) else (laws_FnExactCoverWinding.j0 k a1 l2 a3 bt401.1 bt401.2 t412 bt415.1 bt415.2 true l0_0 l0_1 bt405.1 bt405.2)))))))))) = some r := H
  have A10 := Aside0.mk A100
  clear A100
  by_cases c11 : t391 < 0
  ·rw [if_pos c11] at H
   have c11b0 : decide (t391 < 0) = true := decide_eq_true c11
   clear c11
   obtain rfl := Option.some.inj H
   go_enter Try.func10, Try.ntmps10
   go_wp2_with (first | ((with_reducible refine gate_dst (N := 4) rfl ?_); refine box_event ?hg (N := 4) ?hd (cs := #[.slice A0_0 l0_0.length c0_0, .slice A0_1 l0_1.length c0_1]) (t := 24) ?hr ?_; (case hd => rfl); (case hg => rfl); (case hr => first | (go_simp; done) | (go_simp; rfl)); intro gb389 hg w12 hbox hb; have n0_ := Aside0.mk (below_step (by repeat (first | (with_reducible first | exact HB.out | apply below_alloc | apply pw_below_drewN | apply below_drew1) | exact HB.out)) hb); have n1_ := Aside0.mk (hbox); have n2_ := Aside0.mk ((by rw [hg]; exact (below_size (by repeat (first | (with_reducible first | exact HB.out | apply below_alloc | apply pw_below_drewN | apply below_drew1) | exact HB.out))) : w.heap.size ≤ gb389)); have n3_ := Aside0.mk ((by rw [hg]; exact (below_size (by repeat (first | (with_reducible first | exact HB.out | apply below_alloc | apply pw_below_drewN | apply below_drew1) | exact HB.out))) : w.heap.size ≤ gb389)); clear HB; have HB := n0_; have BK389 := n1_; have GW389 := n2_; have GE389 := n3_; clear n0_ n1_ n2_ n3_; clear hb hbox hg; have hcz13_0 : w12.cell? ⟨gb389, 0, none⟩ = some (.slice A0_0 l0_0.length c0_0) := (blk_cell BK389.out 0).trans rfl; have hcz13_1 : w12.cell? ⟨gb389, 1, none⟩ = some (.slice A0_1 l0_1.length c0_1) := (blk_cell BK389.out 1).trans rfl; have hfz13_0 := blk_frozen BK389.out 0; have hfz13_1 := blk_frozen BK389.out 1) | ((with_reducible refine gate_callee (f := 15) rfl ?_); refine goesL_ (some 23) rfl rfl Try.func15 (by kernel_rfl) rfl #[.agg #[.slice A0_0 l0_0.length c0_0, .slice A0_1 l0_1.length c0_1], .int .i64 1048576] rfl (by (try simp only [List.map_toArray, List.map_cons, List.map_nil]); first | done | rfl | (simp only [List.length_drop, List.length_take]; rfl)) ?_; (with_reducible refine (laws_szMap.calls _ _ l0_0 _ _ l0_1 1048576 t390 _ ?side1 ?side2 ?side3 ?side4 A5.out).mono ?_); (case side1 => repeat (first | exact (Kd.C_below HR0_0.out HB.out) | (with_reducible refine Kd.C_alloc ?_ _))); (case side2 => exact HC0_0.out); (case side3 => repeat (first | exact (Kd.C_below HR0_1.out HB.out) | (with_reducible refine Kd.C_alloc ?_ _))); (case side4 => exact HC0_1.out); rintro e w14 ⟨rfl, hb⟩; refine ⟨_, rfl, ?_⟩; have n0_ := Aside0.mk (blk_below (g := gb389) (o := .cells #[.slice A0_0 l0_0.length c0_0, .slice A0_1 l0_1.length c0_1] 24 (0, 0)) (by (with_reducible repeat refine blk_alloc ?_ _); exact BK389.out) hb); have n1_ := Aside0.mk (below_step (by repeat (first | (with_reducible first | exact HB.out | apply below_alloc | apply pw_below_drewN | apply below_drew1 | refine below_set ?_ GE389.out) | exact HB.out)) hb); clear BK389; clear HB; have BK389 := n0_; have HB := n1_; clear n0_ n1_; (try clear hb); (try clear hb2); (try clear hk); (try clear hi)) | ((with_reducible refine gate_callee (f := 16) rfl ?_); refine goesL_ (some 28) rfl rfl Try.func16 (by kernel_rfl) rfl #[.slice A2 l2.length c2, .int .i64 t390] rfl (by (try simp only [List.map_toArray, List.map_cons, List.map_nil]); first | done | rfl | (simp only [List.length_drop, List.length_take]; rfl)) ?_; (with_reducible refine (laws_szIntSS.calls k _ _ l2 t390 t391 _ ?side1 ?side2 A10.out).mono ?_); (case side1 => repeat (first | exact (Kd.C_below HR2.out HB.out) | (with_reducible refine Kd.C_alloc ?_ _))); (case side2 => exact HC2.out); rintro e w' ⟨rfl, ⟨nd, rfl⟩⟩; refine ⟨_, rfl, ?_⟩))
   go_ret
   exact ⟨by first | rfl | (simp [errW_none, errW_some] <;> rfl) | (simp [*, errW_none, errW_some] <;> rfl), by repeat (first | (with_reducible first | exact HB.out | apply below_alloc | apply pw_below_drewN | apply below_drew1 | refine below_set ?_ GE389.out) | exact HB.out)⟩
  ·rw [if_neg c11] at H
   have c11b0 : decide (t391 < 0) = false := decide_eq_false c11
   clear c11
   replace H := Option.bind_eq_some_iff.mp H
   obtain ⟨⟨t392, t395⟩, A150, H⟩ := H
   replace H : ((laws_toIntSS.f k l2).bind fun t398 => ((spec_CoverWinding.f k t392 t395 a1 t398 a3).bind fun bt401 => ((laws_toMap.f k l0_0 l0_1).bind fun bt405 => ((laws_toIntSS.f k l2).bind fun t412 => ((impl_CoverWinding.f k bt405.1 bt405.2 a1 t412 a3).bind fun bt415 => ((laws_eqIntS.f k bt415.1 bt401.1).bind fun t419 => (if t419 = true then (laws_FnExactCoverWinding.j0 k a1 l2 a3 bt401.1 bt401.2 t412 bt415.1 bt415.2 (bt415.2 != bt401.2) l0_0 l0_1 bt405.1 bt405.2) else (laws_FnExactCoverWinding.j0 k a1 l2 a3 bt401.1 bt401.2 t412 bt415.1 bt415.2 true l0_0 l0_1 bt405.1 bt405.2)))))))) = some r := H
   have A15 := Aside0.mk A150
   clear A150
   replace H := Option.bind_eq_some_iff.mp H
   obtain ⟨t398, A160, H⟩ := H
   replace H : ((spec_CoverWinding.f k t392 t395 a1 t398 a3).bind fun bt401 => ((laws_toMap.f k l0_0 l0_1).bind fun bt405 => ((laws_toIntSS.f k l2).bind fun t412 => ((impl_CoverWinding.f k bt405.1 bt405.2 a1 t412 a3).bind fun bt415 => ((laws_eqIntS.f k bt415.1 bt401.1).bind fun t419 => (if t419 = true then (laws_FnExactCoverWinding.j0 k a1 l2 a3 bt401.1 bt401.2 t412 bt415.1 bt415.2 (bt415.2 != bt401.2) l0_0 l0_1 bt405.1 bt405.2) else (laws_FnExactCoverWinding.j0 k a1 l2 a3 bt401.1 bt401.2 t412 bt415.1 bt415.2 true l0_0 l0_1 bt405.1 bt405.2))))))) = some r := H
   have A16 := Aside0.mk A160
   clear A160
   replace H := Option.bind_eq_some_iff.mp H
   obtain ⟨⟨t401, t404⟩, A170, H⟩ := H
   replace H : ((laws_toMap.f k l0_0 l0_1).bind fun bt405 => ((laws_toIntSS.f k l2).bind fun t412 => ((impl_CoverWinding.f k bt405.1 bt405.2 a1 t412 a3).bind fun bt415 => ((laws_eqIntS.f k bt415.1 t401).bind fun t419 => (if t419 = true then (laws_FnExactCoverWinding.j0 k a1 l2 a3 t401 t404 t412 bt415.1 bt415.2 (bt415.2 != t404) l0_0 l0_1 bt405.1 bt405.2) else (laws_FnExactCoverWinding.j0 k a1 l2 a3 t401 t404 t412 bt415.1 bt415.2 true l0_0 l0_1 bt405.1 bt405.2)))))) = some r := H
   have A17 := Aside0.mk A170
   clear A170
   replace H := Option.bind_eq_some_iff.mp H
   obtain ⟨⟨t405, t408⟩, A180, H⟩ := H
   replace H : ((laws_toIntSS.f k l2).bind fun t412 => ((impl_CoverWinding.f k t405 t408 a1 t412 a3).bind fun bt415 => ((laws_eqIntS.f k bt415.1 t401).bind fun t419 => (if t419 = true then (laws_FnExactCoverWinding.j0 k a1 l2 a3 t401 t404 t412 bt415.1 bt415.2 (bt415.2 != t404) l0_0 l0_1 t405 t408) else (laws_FnExactCoverWinding.j0 k a1 l2 a3 t401 t404 t412 bt415.1 bt415.2 true l0_0 l0_1 t405 t408))))) = some r := H
   have A18 := Aside0.mk A180
   clear A180
   replace H := Option.bind_eq_some_iff.mp H
   obtain ⟨t412, A190, H⟩ := H
   replace H : ((impl_CoverWinding.f k t405 t408 a1 t412 a3).bind fun bt415 => ((laws_eqIntS.f k bt415.1 t401).bind fun t419 => (if t419 = true then (laws_FnExactCoverWinding.j0 k a1 l2 a3 t401 t404 t412 bt415.1 bt415.2 (bt415.2 != t404) l0_0 l0_1 t405 t408) else (laws_FnExactCoverWinding.j0 k a1 l2 a3 t401 t404 t412 bt415.1 bt415.2 true l0_0 l0_1 t405 t408)))) = some r := H
   have A19 := Aside0.mk A190
   clear A190
   replace H := Option.bind_eq_some_iff.mp H
   obtain ⟨⟨t415, t418⟩, A200, H⟩ := H
   replace H : ((laws_eqIntS.f k t415 t401).bind fun t419 => (if t419 = true then (laws_FnExactCoverWinding.j0 k a1 l2 a3 t401 t404 t412 t415 t418 (t418 != t404) l0_0 l0_1 t405 t408) else (laws_FnExactCoverWinding.j0 k a1 l2 a3 t401 t404 t412 t415 t418 true l0_0 l0_1 t405 t408))) = some r := H
   have A20 := Aside0.mk A200
   clear A200
   have HC21 := Aside0.mk H
   clear H
   go_enter Try.func10, Try.ntmps10
   go_upto_region 12 with (first | ((with_reducible refine gate_dst (N := 4) rfl ?_); refine box_event ?hg (N := 4) ?hd (cs := #[.slice A0_0 l0_0.length c0_0, .slice A0_1 l0_1.length c0_1]) (t := 24) ?hr ?_; (case hd => rfl); (case hg => rfl); (case hr => first | (go_simp; done) | (go_simp; rfl)); intro gb389 hg w22 hbox hb; have n0_ := Aside0.mk (below_step (by repeat (first | (with_reducible first | exact HB.out | apply below_alloc | apply pw_below_drewN | apply below_drew1) | exact HB.out)) hb); have n1_ := Aside0.mk (hbox); have n2_ := Aside0.mk ((by rw [hg]; exact (below_size (by repeat (first | (with_reducible first | exact HB.out | apply below_alloc | apply pw_below_drewN | apply below_drew1) | exact HB.out))) : w.heap.size ≤ gb389)); have n3_ := Aside0.mk ((by rw [hg]; exact (below_size (by repeat (first | (with_reducible first | exact HB.out | apply below_alloc | apply pw_below_drewN | apply below_drew1) | exact HB.out))) : w.heap.size ≤ gb389)); clear HB; have HB := n0_; have BK389 := n1_; have GW389 := n2_; have GE389 := n3_; clear n0_ n1_ n2_ n3_; clear hb hbox hg; have hcz23_0 : w22.cell? ⟨gb389, 0, none⟩ = some (.slice A0_0 l0_0.length c0_0) := (blk_cell BK389.out 0).trans rfl; have hcz23_1 : w22.cell? ⟨gb389, 1, none⟩ = some (.slice A0_1 l0_1.length c0_1) := (blk_cell BK389.out 1).trans rfl; have hfz23_0 := blk_frozen BK389.out 0; have hfz23_1 := blk_frozen BK389.out 1) | ((with_reducible refine gate_callee (f := 15) rfl ?_); refine goesL_ (some 23) rfl rfl Try.func15 (by kernel_rfl) rfl #[.agg #[.slice A0_0 l0_0.length c0_0, .slice A0_1 l0_1.length c0_1], .int .i64 1048576] rfl (by (try simp only [List.map_toArray, List.map_cons, List.map_nil]); first | done | rfl | (simp only [List.length_drop, List.length_take]; rfl)) ?_; (with_reducible refine (laws_szMap.calls _ _ l0_0 _ _ l0_1 1048576 t390 _ ?side1 ?side2 ?side3 ?side4 A5.out).mono ?_); (case side1 => repeat (first | exact (Kd.C_below HR0_0.out HB.out) | (with_reducible refine Kd.C_alloc ?_ _))); (case side2 => exact HC0_0.out); (case side3 => repeat (first | exact (Kd.C_below HR0_1.out HB.out) | (with_reducible refine Kd.C_alloc ?_ _))); (case side4 => exact HC0_1.out); rintro e w24 ⟨rfl, hb⟩; refine ⟨_, rfl, ?_⟩; have n0_ := Aside0.mk (blk_below (g := gb389) (o := .cells #[.slice A0_0 l0_0.length c0_0, .slice A0_1 l0_1.length c0_1] 24 (0, 0)) (by (with_reducible repeat refine blk_alloc ?_ _); exact BK389.out) hb); have n1_ := Aside0.mk (below_step (by repeat (first | (with_reducible first | exact HB.out | apply below_alloc | apply pw_below_drewN | apply below_drew1 | refine below_set ?_ GE389.out) | exact HB.out)) hb); clear BK389; clear HB; have BK389 := n0_; have HB := n1_; clear n0_ n1_; (try clear hb); (try clear hb2); (try clear hk); (try clear hi)) | ((with_reducible refine gate_callee (f := 16) rfl ?_); refine goesL_ (some 28) rfl rfl Try.func16 (by kernel_rfl) rfl #[.slice A2 l2.length c2, .int .i64 t390] rfl (by (try simp only [List.map_toArray, List.map_cons, List.map_nil]); first | done | rfl | (simp only [List.length_drop, List.length_take]; rfl)) ?_; (with_reducible refine (laws_szIntSS.calls k _ _ l2 t390 t391 _ ?side1 ?side2 A10.out).mono ?_); (case side1 => repeat (first | exact (Kd.C_below HR2.out HB.out) | (with_reducible refine Kd.C_alloc ?_ _))); (case side2 => exact HC2.out); rintro e w' ⟨rfl, ⟨nd, rfl⟩⟩; refine ⟨_, rfl, ?_⟩; (try (rw [drewN_self w24]; generalize hq_ : World.drewN w24 _ = w24; have n0_ : Aside0 (w24.heap[gb389]? = some (.cells #[.slice A0_0 l0_0.length c0_0, .slice A0_1 l0_1.length c0_1] 24 (0, 0))) := ⟨by rw [← hq_]; exact (by (with_reducible repeat refine blk_alloc ?_ _); exact BK389.out)⟩; have n1_ : Aside0 (Below w.heap.size w w24) := ⟨by rw [← hq_]; exact (by repeat (first | (with_reducible first | exact HB.out | apply below_alloc | apply pw_below_drewN | apply below_drew1 | refine below_set ?_ GE389.out) | exact HB.out))⟩; clear BK389 HB hq_; have BK389 := n0_; have HB := n1_; clear n0_ n1_)); have hcz25_0 : w24.cell? ⟨gb389, 0, none⟩ = some (.slice A0_0 l0_0.length c0_0) := (blk_cell BK389.out 0).trans rfl; have hcz25_1 : w24.cell? ⟨gb389, 1, none⟩ = some (.slice A0_1 l0_1.length c0_1) := (blk_cell BK389.out 1).trans rfl; have hfz25_0 := blk_frozen BK389.out 0; have hfz25_1 := blk_frozen BK389.out 1) | ((with_reducible refine gate_callee (f := 18) rfl ?_); refine goesL_ (some 33) rfl rfl Try.func18 (by kernel_rfl) rfl #[.agg #[.slice A0_0 l0_0.length c0_0, .slice A0_1 l0_1.length c0_1]] rfl (by (try simp only [List.map_toArray, List.map_cons, List.map_nil]); first | done | rfl | (simp only [List.length_drop, List.length_take]; rfl)) ?_; (with_reducible refine (laws_toMap.calls k _ _ l0_0 _ _ l0_1 t392 t395 _ ?side1 ?side2 ?side3 ?side4 A15.out).mono ?_); (case side1 => repeat (first | exact (Kd.C_below HR0_0.out HB.out) | (with_reducible refine Kd.C_alloc ?_ _))); (case side2 => exact HC0_0.out); (case side3 => repeat (first | exact (Kd.C_below HR0_1.out HB.out) | (with_reducible refine Kd.C_alloc ?_ _))); (case side4 => exact HC0_1.out); rintro e w26 ⟨v393, v396, rfl, ho0, ho1, hb⟩; refine ⟨_, rfl, ?_⟩; have n0_ := Aside0.mk (Kd.R_lower ho0 (below_size (by repeat (first | (with_reducible first | exact HB.out | apply below_alloc | apply pw_below_drewN | apply below_drew1 | refine below_set ?_ GE389.out) | exact HB.out)))); have n1_ := Aside0.mk (Kd.R_lower ho1 (below_size (by repeat (first | (with_reducible first | exact HB.out | apply below_alloc | apply pw_below_drewN | apply below_drew1 | refine below_set ?_ GE389.out) | exact HB.out)))); have n2_ := Aside0.mk (blk_below (g := gb389) (o := .cells #[.slice A0_0 l0_0.length c0_0, .slice A0_1 l0_1.length c0_1] 24 (0, 0)) (by (with_reducible repeat refine blk_alloc ?_ _); exact BK389.out) hb); have n3_ := Aside0.mk (below_step (by repeat (first | (with_reducible first | exact HB.out | apply below_alloc | apply pw_below_drewN | apply below_drew1 | refine below_set ?_ GE389.out) | exact HB.out)) hb); clear BK389; clear HB; have HO394 := n0_; have HO397 := n1_; have BK389 := n2_; have HB := n3_; clear n0_ n1_ n2_ n3_; (try clear hb); (try clear hb2); (try clear hk); (try clear hi); (try clear ho0); (try clear ho1)) | ((with_reducible refine gate_callee (f := 19) rfl ?_); refine goesL_ (some 36) rfl rfl Try.func19 (by kernel_rfl) rfl #[.slice A2 l2.length c2] rfl (by (try simp only [List.map_toArray, List.map_cons, List.map_nil]); first | done | rfl | (simp only [List.length_drop, List.length_take]; rfl)) ?_; (with_reducible refine (laws_toIntSS.calls k _ _ l2 t398 _ ?side1 ?side2 A16.out).mono ?_); (case side1 => repeat (first | exact (Kd.C_below HR2.out HB.out) | (with_reducible refine Kd.C_alloc ?_ _))); (case side2 => exact HC2.out); rintro e w27 ⟨v399, rfl, ho0, hb⟩; refine ⟨_, rfl, ?_⟩; have n0_ := Aside0.mk (Kd.R_below (by (with_reducible repeat apply Kd.R_alloc); exact HO394.out) hb); have n1_ := Aside0.mk (Kd.R_below (by (with_reducible repeat apply Kd.R_alloc); exact HO397.out) hb); have n2_ := Aside0.mk (Kd.S_lower (Kd.S_new' (Kd.S_new' ho0 (Kd.R_lt (by (with_reducible repeat apply Kd.R_alloc); exact HO394.out))) (Kd.R_lt (by (with_reducible repeat apply Kd.R_alloc); exact HO397.out))) (below_size (by repeat (first | (with_reducible first | exact HB.out | apply below_alloc | apply pw_below_drewN | apply below_drew1 | refine below_set ?_ GE389.out) | exact HB.out)))); have n3_ := Aside0.mk (blk_below (g := gb389) (o := .cells #[.slice A0_0 l0_0.length c0_0, .slice A0_1 l0_1.length c0_1] 24 (0, 0)) (by (with_reducible repeat refine blk_alloc ?_ _); exact BK389.out) hb); have n4_ := Aside0.mk (below_step (by repeat (first | (with_reducible first | exact HB.out | apply below_alloc | apply pw_below_drewN | apply below_drew1 | refine below_set ?_ GE389.out) | exact HB.out)) hb); clear HO394; clear HO397; clear BK389; clear HB; have HO394 := n0_; have HO397 := n1_; have HO400 := n2_; have BK389 := n3_; have HB := n4_; clear n0_ n1_ n2_ n3_ n4_; (try clear hb); (try clear hb2); (try clear hk); (try clear hi); (try clear ho0); obtain ⟨Ao28, co28, eo28⟩ := Kd.R_slice HO394.out; subst eo28; obtain ⟨Ao29, co29, eo29⟩ := Kd.R_slice HO397.out; subst eo29; obtain ⟨Ao30, co30, eo30⟩ := Kd.S_slice HO400.out; subst eo30) | ((with_reducible refine gate_callee (f := 43) rfl ?_); refine goesL_ (some 38) rfl rfl Try.func43 (by kernel_rfl) rfl #[.agg #[.slice Ao28 t392.length co28, .slice Ao29 t395.length co29], .int .i64 a1, .slice Ao30 t398.length co30, .int .i64 a3] rfl (by (try simp only [List.map_toArray, List.map_cons, List.map_nil]); first | done | rfl | (simp only [List.length_drop, List.length_take]; rfl)) ?_; (with_reducible refine (spec_CoverWinding.calls k _ _ t392 _ _ t395 a1 _ _ t398 a3 t401 t404 _ ?side1 ?side2 ?side3 ?side4 ?side5 ?side6 A17.out).mono ?_); (case side1 => repeat (first | exact (Kd.R_reads' HO394.out).2.2 | (with_reducible refine Kd.C_alloc ?_ _))); (case side2 => exact (Kd.R_reads' HO394.out).2.1); (case side3 => repeat (first | exact (Kd.R_reads' HO397.out).2.2 | (with_reducible refine Kd.C_alloc ?_ _))); (case side4 => exact (Kd.R_reads' HO397.out).2.1); (case side5 => repeat (first | exact (Kd.S_reads' HO400.out).2.2 | (with_reducible refine Kd.C_alloc ?_ _))); (case side6 => exact (Kd.S_reads' HO400.out).2.1); rintro e w31 ⟨v402, rfl, ho0, hb⟩; refine ⟨_, rfl, ?_⟩; have n0_ := Aside0.mk (Kd.R_elder' (by (with_reducible repeat apply Kd.R_alloc); exact HO394.out) (Kd.R_base ho0) hb); have n1_ := Aside0.mk (Kd.R_elder' (by (with_reducible repeat apply Kd.R_alloc); exact HO397.out) (Kd.R_base ho0) hb); have n2_ := Aside0.mk (Kd.S_elder' (by (with_reducible repeat apply Kd.S_alloc); exact HO400.out) (Kd.R_base ho0) hb); have n3_ := Aside0.mk (Kd.R_lower (Kd.R_new' (Kd.R_new' ho0 (Kd.R_lt (by (with_reducible repeat apply Kd.R_alloc); exact HO394.out))) (Kd.R_lt (by (with_reducible repeat apply Kd.R_alloc); exact HO397.out))) (below_size (by repeat (first | (with_reducible first | exact HB.out | apply below_alloc | apply pw_below_drewN | apply below_drew1 | refine below_set ?_ GE389.out) | exact HB.out)))); have n4_ := Aside0.mk (blk_below (g := gb389) (o := .cells #[.slice A0_0 l0_0.length c0_0, .slice A0_1 l0_1.length c0_1] 24 (0, 0)) (by (with_reducible repeat refine blk_alloc ?_ _); exact BK389.out) hb); have n5_ := Aside0.mk (below_step (by repeat (first | (with_reducible first | exact HB.out | apply below_alloc | apply pw_below_drewN | apply below_drew1 | refine below_set ?_ GE389.out) | exact HB.out)) hb); clear HO394; clear HO397; clear HO400; clear BK389; clear HB; have HO394 := n0_; have HO397 := n1_; have HO400 := n2_; have HO403 := n3_; have BK389 := n4_; have HB := n5_; clear n0_ n1_ n2_ n3_ n4_ n5_; (try clear hb); (try clear hb2); (try clear hk); (try clear hi); (try clear ho0); have hcz32_0 : w31.cell? ⟨gb389, 0, none⟩ = some (.slice A0_0 l0_0.length c0_0) := (blk_cell BK389.out 0).trans rfl; have hcz32_1 : w31.cell? ⟨gb389, 1, none⟩ = some (.slice A0_1 l0_1.length c0_1) := (blk_cell BK389.out 1).trans rfl; have hfz32_0 := blk_frozen BK389.out 0; have hfz32_1 := blk_frozen BK389.out 1) | ((with_reducible refine gate_callee (f := 18) rfl ?_); refine goesL_ (some 42) rfl rfl Try.func18 (by kernel_rfl) rfl #[.agg #[.slice A0_0 l0_0.length c0_0, .slice A0_1 l0_1.length c0_1]] rfl (by (try simp only [List.map_toArray, List.map_cons, List.map_nil]); first | done | rfl | (simp only [List.length_drop, List.length_take]; rfl)) ?_; (with_reducible refine (laws_toMap.calls k _ _ l0_0 _ _ l0_1 t405 t408 _ ?side1 ?side2 ?side3 ?side4 A18.out).mono ?_); (case side1 => repeat (first | exact (Kd.C_below HR0_0.out HB.out) | (with_reducible refine Kd.C_alloc ?_ _))); (case side2 => exact HC0_0.out); (case side3 => repeat (first | exact (Kd.C_below HR0_1.out HB.out) | (with_reducible refine Kd.C_alloc ?_ _))); (case side4 => exact HC0_1.out); rintro e w33 ⟨v406, v409, rfl, ho0, ho1, hb⟩; refine ⟨_, rfl, ?_⟩; have n0_ := Aside0.mk (Kd.R_mono (Kd.R_told (Kd.R_told (Kd.R_old (by (with_reducible repeat apply Kd.R_alloc); exact HO394.out) hb) (Kd.R_base ho0)) (Kd.R_base ho1)) (fun _ h_ => h_.1)); have n1_ := Aside0.mk (Kd.R_mono (Kd.R_told (Kd.R_told (Kd.R_old (by (with_reducible repeat apply Kd.R_alloc); exact HO397.out) hb) (Kd.R_base ho0)) (Kd.R_base ho1)) (fun _ h_ => h_.1)); have n2_ := Aside0.mk (Kd.S_mono (Kd.S_told (Kd.S_told (Kd.S_old (by (with_reducible repeat apply Kd.S_alloc); exact HO400.out) hb) (Kd.R_base ho0)) (Kd.R_base ho1)) (fun _ h_ => h_.1)); have n3_ := Aside0.mk (Kd.R_mono (Kd.R_told (Kd.R_told (Kd.R_old (by (with_reducible repeat apply Kd.R_alloc); exact HO403.out) hb) (Kd.R_base ho0)) (Kd.R_base ho1)) (fun _ h_ => h_.1)); have n4_ := Aside0.mk (Kd.R_lower (Kd.R_new' (Kd.R_new' (Kd.R_new' ho0 (Kd.R_lt (by (with_reducible repeat apply Kd.R_alloc); exact HO394.out))) (Kd.R_lt (by (with_reducible repeat apply Kd.R_alloc); exact HO397.out))) (Kd.R_lt (by (with_reducible repeat apply Kd.R_alloc); exact HO403.out))) (below_size (by repeat (first | (with_reducible first | exact HB.out | apply below_alloc | apply pw_below_drewN | apply below_drew1 | refine below_set ?_ GE389.out) | exact HB.out)))); have n5_ := Aside0.mk (Kd.R_lower (Kd.R_new' (Kd.R_new' (Kd.R_new' ho1 (Kd.R_lt (by (with_reducible repeat apply Kd.R_alloc); exact HO394.out))) (Kd.R_lt (by (with_reducible repeat apply Kd.R_alloc); exact HO397.out))) (Kd.R_lt (by (with_reducible repeat apply Kd.R_alloc); exact HO403.out))) (below_size (by repeat (first | (with_reducible first | exact HB.out | apply below_alloc | apply pw_below_drewN | apply below_drew1 | refine below_set ?_ GE389.out) | exact HB.out)))); have n6_ := Aside0.mk (blk_below (g := gb389) (o := .cells #[.slice A0_0 l0_0.length c0_0, .slice A0_1 l0_1.length c0_1] 24 (0, 0)) (by (with_reducible repeat refine blk_alloc ?_ _); exact BK389.out) hb); have n7_ := Aside0.mk (below_step (by repeat (first | (with_reducible first | exact HB.out | apply below_alloc | apply pw_below_drewN | apply below_drew1 | refine below_set ?_ GE389.out) | exact HB.out)) hb); clear HO394; clear HO397; clear HO400; clear HO403; clear BK389; clear HB; have HO394 := n0_; have HO397 := n1_; have HO400 := n2_; have HO403 := n3_; have HO407 := n4_; have HO410 := n5_; have BK389 := n6_; have HB := n7_; clear n0_ n1_ n2_ n3_ n4_ n5_ n6_ n7_; (try clear hb); (try clear hb2); (try clear hk); (try clear hi); (try clear ho0); (try clear ho1)) | ((with_reducible refine gate_dst (N := 12) rfl ?_); refine box_event ?hg (N := 12) ?hd (cs := #[.slice none 0 0, .slice none 0 0]) (t := 29) ?hr ?_; (case hd => rfl); (case hg => rfl); (case hr => first | (go_simp; done) | (go_simp; rfl)); intro gb411 hg w34 hbox hb; have n0_ := Aside0.mk (Kd.R_below (by (with_reducible repeat apply Kd.R_alloc); exact HO394.out) hb); have n1_ := Aside0.mk (Kd.R_below (by (with_reducible repeat apply Kd.R_alloc); exact HO397.out) hb); have n2_ := Aside0.mk (Kd.S_below (by (with_reducible repeat apply Kd.S_alloc); exact HO400.out) hb); have n3_ := Aside0.mk (Kd.R_below (by (with_reducible repeat apply Kd.R_alloc); exact HO403.out) hb); have n4_ := Aside0.mk (Kd.R_below (by (with_reducible repeat apply Kd.R_alloc); exact HO407.out) hb); have n5_ := Aside0.mk (Kd.R_below (by (with_reducible repeat apply Kd.R_alloc); exact HO410.out) hb); have n6_ := Aside0.mk (blk_below (g := gb389) (o := .cells #[.slice A0_0 l0_0.length c0_0, .slice A0_1 l0_1.length c0_1] 24 (0, 0)) (by (with_reducible repeat refine blk_alloc ?_ _); exact BK389.out) hb); have n7_ := Aside0.mk (below_step (by repeat (first | (with_reducible first | exact HB.out | apply below_alloc | apply pw_below_drewN | apply below_drew1 | refine below_set ?_ GE389.out) | exact HB.out)) hb); have n8_ := Aside0.mk (hbox); have n9_ := Aside0.mk ((by rw [hg]; exact (below_size (by repeat (first | (with_reducible first | exact HB.out | apply below_alloc | apply pw_below_drewN | apply below_drew1 | refine below_set ?_ GE389.out) | exact HB.out))) : w.heap.size ≤ gb411)); have n10_ := Aside0.mk ((by rw [hg]; exact (below_size (by repeat (first | (with_reducible first | exact HB.out | apply below_alloc | apply pw_below_drewN | apply below_drew1 | refine below_set ?_ GE389.out) | exact HB.out))) : w.heap.size ≤ gb411)); have n11_ := Aside0.mk ((by rw [hg]; exact Nat.ne_of_lt (blk_lt (g := gb389) (o := .cells #[.slice A0_0 l0_0.length c0_0, .slice A0_1 l0_1.length c0_1] 24 (0, 0)) (by (with_reducible repeat refine blk_alloc ?_ _); exact BK389.out)) : gb389 ≠ gb411)); have n12_ := Aside0.mk ((by rw [hg]; exact Nat.ne_of_gt (blk_lt (g := gb389) (o := .cells #[.slice A0_0 l0_0.length c0_0, .slice A0_1 l0_1.length c0_1] 24 (0, 0)) (by (with_reducible repeat refine blk_alloc ?_ _); exact BK389.out)) : gb411 ≠ gb389)); clear HO394; clear HO397; clear HO400; clear HO403; clear HO407; clear HO410; clear BK389; clear HB; have HO394 := n0_; have HO397 := n1_; have HO400 := n2_; have HO403 := n3_; have HO407 := n4_; have HO410 := n5_; have BK389 := n6_; have HB := n7_; have BK411 := n8_; have GW411 := n9_; have GE411 := n10_; have NB389_411 := n11_; have NB411_389 := n12_; clear n0_ n1_ n2_ n3_ n4_ n5_ n6_ n7_ n8_ n9_ n10_ n11_ n12_; clear hb hbox hg; obtain ⟨Ao35, co35, eo35⟩ := Kd.R_slice HO407.out; subst eo35; have hnb36 := NB411_389.out; have hnc36 := NB389_411.out; have hcz37_0 : w34.cell? ⟨gb411, 0, none⟩ = some (.slice none 0 0) := (blk_cell BK411.out 0).trans rfl; have hcz37_1 : w34.cell? ⟨gb411, 1, none⟩ = some (.slice none 0 0) := (blk_cell BK411.out 1).trans rfl; have hfz37_0 := blk_frozen BK411.out 0; have hfz37_1 := blk_frozen BK411.out 1; obtain ⟨Ao38, co38, eo38⟩ := Kd.R_slice HO410.out; subst eo38) | ((with_reducible refine gate_callee (f := 19) rfl ?_); refine goesL_ (some 44) rfl rfl Try.func19 (by kernel_rfl) rfl #[.slice A2 l2.length c2] rfl (by (try simp only [List.map_toArray, List.map_cons, List.map_nil]); first | done | rfl | (simp only [List.length_drop, List.length_take]; rfl)) ?_; (with_reducible refine (laws_toIntSS.calls k _ _ l2 t412 _ ?side1 ?side2 A19.out).mono ?_); (case side1 => exact Kd.C_below HR2.out (by repeat (first | (with_reducible first | exact HB.out | apply below_alloc | apply pw_below_drewN | apply below_drew1 | refine below_set ?_ GE389.out | refine below_set ?_ GE411.out) | exact HB.out))); (case side2 => exact HC2.out); rintro e w39 ⟨v413, rfl, ho0, hb⟩; refine ⟨_, rfl, ?_⟩; have n0_ := Aside0.mk (Kd.R_below (by (with_reducible repeat apply Kd.R_alloc); exact (Kd.R_mono (Kd.R_far (p := ⟨gb411, 1, none⟩) (Kd.R_far (p := ⟨gb411, 0, none⟩) (Kd.R_types HO394.out BK411.out (by decide)) (fun _ hk => hk.2) (.slice Ao35 t405.length co35)) (fun _ hk => hk.2) (.slice Ao38 t408.length co38)) (fun _ h_ => h_.1))) hb); have n1_ := Aside0.mk (Kd.R_below (by (with_reducible repeat apply Kd.R_alloc); exact (Kd.R_mono (Kd.R_far (p := ⟨gb411, 1, none⟩) (Kd.R_far (p := ⟨gb411, 0, none⟩) (Kd.R_types HO397.out BK411.out (by decide)) (fun _ hk => hk.2) (.slice Ao35 t405.length co35)) (fun _ hk => hk.2) (.slice Ao38 t408.length co38)) (fun _ h_ => h_.1))) hb); have n2_ := Aside0.mk (Kd.S_elder' (by (with_reducible repeat apply Kd.S_alloc); exact (Kd.S_mono (Kd.S_far (p := ⟨gb411, 1, none⟩) (Kd.S_far (p := ⟨gb411, 0, none⟩) (Kd.S_types HO400.out BK411.out (by decide)) (fun _ hk => hk.2) (.slice Ao35 t405.length co35)) (fun _ hk => hk.2) (.slice Ao38 t408.length co38)) (fun _ h_ => h_.1))) (Kd.S_base ho0) hb); have n3_ := Aside0.mk (Kd.R_below (by (with_reducible repeat apply Kd.R_alloc); exact (Kd.R_mono (Kd.R_far (p := ⟨gb411, 1, none⟩) (Kd.R_far (p := ⟨gb411, 0, none⟩) (Kd.R_types HO403.out BK411.out (by decide)) (fun _ hk => hk.2) (.slice Ao35 t405.length co35)) (fun _ hk => hk.2) (.slice Ao38 t408.length co38)) (fun _ h_ => h_.1))) hb); have n4_ := Aside0.mk (Kd.R_below (by (with_reducible repeat apply Kd.R_alloc); exact (Kd.R_mono (Kd.R_far (p := ⟨gb411, 1, none⟩) (Kd.R_far (p := ⟨gb411, 0, none⟩) (Kd.R_types HO407.out BK411.out (by decide)) (fun _ hk => hk.2) (.slice Ao35 t405.length co35)) (fun _ hk => hk.2) (.slice Ao38 t408.length co38)) (fun _ h_ => h_.1))) hb); have n5_ := Aside0.mk (Kd.R_below (by (with_reducible repeat apply Kd.R_alloc); exact (Kd.R_mono (Kd.R_far (p := ⟨gb411, 1, none⟩) (Kd.R_far (p := ⟨gb411, 0, none⟩) (Kd.R_types HO410.out BK411.out (by decide)) (fun _ hk => hk.2) (.slice Ao35 t405.length co35)) (fun _ hk => hk.2) (.slice Ao38 t408.length co38)) (fun _ h_ => h_.1))) hb); have n6_ := Aside0.mk (Kd.S_lower (Kd.S_new' (Kd.S_new' (Kd.S_new' (Kd.S_new' (Kd.S_new' (Kd.S_new' ho0 (Kd.R_lt (by (with_reducible repeat apply Kd.R_alloc); exact (Kd.R_mono (Kd.R_far (p := ⟨gb411, 1, none⟩) (Kd.R_far (p := ⟨gb411, 0, none⟩) (Kd.R_types HO394.out BK411.out (by decide)) (fun _ hk => hk.2) (.slice Ao35 t405.length co35)) (fun _ hk => hk.2) (.slice Ao38 t408.length co38)) (fun _ h_ => h_.1))))) (Kd.R_lt (by (with_reducible repeat apply Kd.R_alloc); exact (Kd.R_mono (Kd.R_far (p := ⟨gb411, 1, none⟩) (Kd.R_far (p := ⟨gb411, 0, none⟩) (Kd.R_types HO397.out BK411.out (by decide)) (fun _ hk => hk.2) (.slice Ao35 t405.length co35)) (fun _ hk => hk.2) (.slice Ao38 t408.length co38)) (fun _ h_ => h_.1))))) (Kd.S_lt (by (with_reducible repeat apply Kd.S_alloc); exact (Kd.S_mono (Kd.S_far (p := ⟨gb411, 1, none⟩) (Kd.S_far (p := ⟨gb411, 0, none⟩) (Kd.S_types HO400.out BK411.out (by decide)) (fun _ hk => hk.2) (.slice Ao35 t405.length co35)) (fun _ hk => hk.2) (.slice Ao38 t408.length co38)) (fun _ h_ => h_.1))))) (Kd.R_lt (by (with_reducible repeat apply Kd.R_alloc); exact (Kd.R_mono (Kd.R_far (p := ⟨gb411, 1, none⟩) (Kd.R_far (p := ⟨gb411, 0, none⟩) (Kd.R_types HO403.out BK411.out (by decide)) (fun _ hk => hk.2) (.slice Ao35 t405.length co35)) (fun _ hk => hk.2) (.slice Ao38 t408.length co38)) (fun _ h_ => h_.1))))) (Kd.R_lt (by (with_reducible repeat apply Kd.R_alloc); exact (Kd.R_mono (Kd.R_far (p := ⟨gb411, 1, none⟩) (Kd.R_far (p := ⟨gb411, 0, none⟩) (Kd.R_types HO407.out BK411.out (by decide)) (fun _ hk => hk.2) (.slice Ao35 t405.length co35)) (fun _ hk => hk.2) (.slice Ao38 t408.length co38)) (fun _ h_ => h_.1))))) (Kd.R_lt (by (with_reducible repeat apply Kd.R_alloc); exact (Kd.R_mono (Kd.R_far (p := ⟨gb411, 1, none⟩) (Kd.R_far (p := ⟨gb411, 0, none⟩) (Kd.R_types HO410.out BK411.out (by decide)) (fun _ hk => hk.2) (.slice Ao35 t405.length co35)) (fun _ hk => hk.2) (.slice Ao38 t408.length co38)) (fun _ h_ => h_.1))))) (below_size (by repeat (first | (with_reducible first | exact HB.out | apply below_alloc | apply pw_below_drewN | apply below_drew1 | refine below_set ?_ GE389.out | refine below_set ?_ GE411.out) | exact HB.out)))); have n7_ := Aside0.mk (blk_below (g := gb389) (o := .cells #[.slice A0_0 l0_0.length c0_0, .slice A0_1 l0_1.length c0_1] 24 (0, 0)) (by (with_reducible repeat refine blk_alloc ?_ _); refine blk_far ?_ NB389_411.out _; (with_reducible repeat refine blk_alloc ?_ _); refine blk_far ?_ NB389_411.out _; (with_reducible repeat refine blk_alloc ?_ _); exact BK389.out) hb); have n8_ := Aside0.mk (blk_below (g := gb411) (o := .cells #[.slice Ao35 t405.length co35, .slice Ao38 t408.length co38] 29 (0, 0)) (by (with_reducible repeat refine blk_alloc ?_ _); refine blk_put (cs := #[.slice Ao35 t405.length co35, .slice none 0 0]) ?_ 1 _ rfl; (with_reducible repeat refine blk_alloc ?_ _); refine blk_put (cs := #[.slice none 0 0, .slice none 0 0]) ?_ 0 _ rfl; (with_reducible repeat refine blk_alloc ?_ _); exact BK411.out) hb); have n9_ := Aside0.mk (below_step (by repeat (first | (with_reducible first | exact HB.out | apply below_alloc | apply pw_below_drewN | apply below_drew1 | refine below_set ?_ GE389.out | refine below_set ?_ GE411.out) | exact HB.out)) hb); clear HO394; clear HO397; clear HO400; clear HO403; clear HO407; clear HO410; clear BK389; clear BK411; clear HB; have HO394 := n0_; have HO397 := n1_; have HO400 := n2_; have HO403 := n3_; have HO407 := n4_; have HO410 := n5_; have HO414 := n6_; have BK389 := n7_; have BK411 := n8_; have HB := n9_; clear n0_ n1_ n2_ n3_ n4_ n5_ n6_ n7_ n8_ n9_; (try clear hb); (try clear hb2); (try clear hk); (try clear hi); (try clear ho0); have hcz40_0 : w39.cell? ⟨gb411, 0, none⟩ = some (.slice Ao35 t405.length co35) := (blk_cell BK411.out 0).trans rfl; have hcz40_1 : w39.cell? ⟨gb411, 1, none⟩ = some (.slice Ao38 t408.length co38) := (blk_cell BK411.out 1).trans rfl; have hfz40_0 := blk_frozen BK411.out 0; have hfz40_1 := blk_frozen BK411.out 1; obtain ⟨Ao41, co41, eo41⟩ := Kd.S_slice HO414.out; subst eo41) | ((with_reducible refine gate_callee (f := 44) rfl ?_); refine goesL_ (some 50) rfl rfl Try.func44 (by kernel_rfl) rfl #[.agg #[.slice Ao35 t405.length co35, .slice Ao38 t408.length co38], .int .i64 a1, .slice Ao41 t412.length co41, .int .i64 a3] rfl (by (try simp only [List.map_toArray, List.map_cons, List.map_nil]); first | done | rfl | (simp only [List.length_drop, List.length_take]; rfl)) ?_; (with_reducible refine (impl_CoverWinding.calls k _ _ t405 _ _ t408 a1 _ _ t412 a3 t415 t418 _ ?side1 ?side2 ?side3 ?side4 ?side5 ?side6 A20.out).mono ?_); (case side1 => repeat (first | exact (Kd.R_reads' HO407.out).2.2 | (with_reducible refine Kd.C_alloc ?_ _))); (case side2 => exact (Kd.R_reads' HO407.out).2.1); (case side3 => repeat (first | exact (Kd.R_reads' HO410.out).2.2 | (with_reducible refine Kd.C_alloc ?_ _))); (case side4 => exact (Kd.R_reads' HO410.out).2.1); (case side5 => repeat (first | exact (Kd.S_reads' HO414.out).2.2 | (with_reducible refine Kd.C_alloc ?_ _))); (case side6 => exact (Kd.S_reads' HO414.out).2.1); rintro e w42 ⟨v416, rfl, ho0, hb⟩; refine ⟨_, rfl, ?_⟩; have n0_ := Aside0.mk (Kd.R_elder' (by (with_reducible repeat apply Kd.R_alloc); exact HO394.out) (Kd.R_base ho0) hb); have n1_ := Aside0.mk (Kd.R_elder' (by (with_reducible repeat apply Kd.R_alloc); exact HO397.out) (Kd.R_base ho0) hb); have n2_ := Aside0.mk (Kd.S_elder' (by (with_reducible repeat apply Kd.S_alloc); exact HO400.out) (Kd.R_base ho0) hb); have n3_ := Aside0.mk (Kd.R_elder' (by (with_reducible repeat apply Kd.R_alloc); exact HO403.out) (Kd.R_base ho0) hb); have n4_ := Aside0.mk (Kd.R_elder' (by (with_reducible repeat apply Kd.R_alloc); exact HO407.out) (Kd.R_base ho0) hb); have n5_ := Aside0.mk (Kd.R_elder' (by (with_reducible repeat apply Kd.R_alloc); exact HO410.out) (Kd.R_base ho0) hb); have n6_ := Aside0.mk (Kd.S_elder' (by (with_reducible repeat apply Kd.S_alloc); exact HO414.out) (Kd.R_base ho0) hb); have n7_ := Aside0.mk (Kd.R_lower (Kd.R_new' (Kd.R_new' (Kd.R_new' (Kd.R_new' (Kd.R_new' ho0 (Kd.R_lt (by (with_reducible repeat apply Kd.R_alloc); exact HO394.out))) (Kd.R_lt (by (with_reducible repeat apply Kd.R_alloc); exact HO397.out))) (Kd.R_lt (by (with_reducible repeat apply Kd.R_alloc); exact HO403.out))) (Kd.R_lt (by (with_reducible repeat apply Kd.R_alloc); exact HO407.out))) (Kd.R_lt (by (with_reducible repeat apply Kd.R_alloc); exact HO410.out))) (below_size (by repeat (first | (with_reducible first | exact HB.out | apply below_alloc | apply pw_below_drewN | apply below_drew1 | refine below_set ?_ GE389.out | refine below_set ?_ GE411.out) | exact HB.out)))); have n8_ := Aside0.mk (blk_below (g := gb389) (o := .cells #[.slice A0_0 l0_0.length c0_0, .slice A0_1 l0_1.length c0_1] 24 (0, 0)) (by (with_reducible repeat refine blk_alloc ?_ _); exact BK389.out) hb); have n9_ := Aside0.mk (blk_below (g := gb411) (o := .cells #[.slice Ao35 t405.length co35, .slice Ao38 t408.length co38] 29 (0, 0)) (by (with_reducible repeat refine blk_alloc ?_ _); exact BK411.out) hb); have n10_ := Aside0.mk (below_step (by repeat (first | (with_reducible first | exact HB.out | apply below_alloc | apply pw_below_drewN | apply below_drew1 | refine below_set ?_ GE389.out | refine below_set ?_ GE411.out) | exact HB.out)) hb); clear HO394; clear HO397; clear HO400; clear HO403; clear HO407; clear HO410; clear HO414; clear BK389; clear BK411; clear HB; have HO394 := n0_; have HO397 := n1_; have HO400 := n2_; have HO403 := n3_; have HO407 := n4_; have HO410 := n5_; have HO414 := n6_; have HO417 := n7_; have BK389 := n8_; have BK411 := n9_; have HB := n10_; clear n0_ n1_ n2_ n3_ n4_ n5_ n6_ n7_ n8_ n9_ n10_; (try clear hb); (try clear hb2); (try clear hk); (try clear hi); (try clear ho0)))
   (try simp only [Act.put, List.setIfInBounds_toArray, List.set_cons_zero, List.set_cons_succ])
   go_cut [61] (fun v61 wc => ∃ (kq : Nat) (x61_20 : Bool), v61 = .bool x61_20 ∧ Aside0 (laws_FnExactCoverWinding.j0 kq a1 l2 a3 t401 t404 t412 t415 t418 x61_20 l0_0 l0_1 t405 t408 = some r) ∧ Aside0 (kq ≤ k) ∧ Aside0 (Kd.R (Kd.int .i64) 3 wc w.heap.size (fun k_ => some k_ ≠ (v416 : Value).ownBlock ∧ some k_ ≠ ((.slice Ao35 t405.length co35) : Value).ownBlock ∧ some k_ ≠ ((.slice Ao38 t408.length co38) : Value).ownBlock) v402 t401) ∧ Aside0 (Kd.S (Kd.slice 3 (Kd.int .i64)) 22 wc w.heap.size (fun k_ => some k_ ≠ (v402 : Value).ownBlock ∧ some k_ ≠ (v416 : Value).ownBlock ∧ some k_ ≠ ((.slice Ao35 t405.length co35) : Value).ownBlock ∧ some k_ ≠ ((.slice Ao38 t408.length co38) : Value).ownBlock) (.slice Ao41 t412.length co41) t412) ∧ Aside0 (Kd.R (Kd.int .i64) 3 wc w.heap.size (fun k_ => some k_ ≠ (v402 : Value).ownBlock ∧ some k_ ≠ ((.slice Ao35 t405.length co35) : Value).ownBlock ∧ some k_ ≠ ((.slice Ao38 t408.length co38) : Value).ownBlock) v416 t415) ∧ Aside0 (Kd.R (Kd.int .i64) 3 wc w.heap.size (fun k_ => some k_ ≠ (v402 : Value).ownBlock ∧ some k_ ≠ (v416 : Value).ownBlock ∧ some k_ ≠ ((.slice Ao38 t408.length co38) : Value).ownBlock) (.slice Ao35 t405.length co35) t405) ∧ Aside0 (Kd.R (Kd.int .i64) 3 wc w.heap.size (fun k_ => some k_ ≠ (v402 : Value).ownBlock ∧ some k_ ≠ (v416 : Value).ownBlock ∧ some k_ ≠ ((.slice Ao35 t405.length co35) : Value).ownBlock) (.slice Ao38 t408.length co38) t408) ∧ Aside0 (wc.heap[gb389]? = some (.cells #[(.slice A0_0 l0_0.length c0_0), (.slice A0_1 l0_1.length c0_1)] 24 (0, 0))) ∧ Aside0 (wc.heap[gb411]? = some (.cells #[(.slice Ao35 t405.length co35), (.slice Ao38 t408.length co38)] 29 (0, 0))) ∧ Aside0 (Below w.heap.size w wc))
   case first =>
    have H := HC21.out
    clear HC21
    replace H := Option.bind_eq_some_iff.mp H
    obtain ⟨t419, A430, H⟩ := H
    replace H : (if t419 = true then (laws_FnExactCoverWinding.j0 k a1 l2 a3 t401 t404 t412 t415 t418 (t418 != t404) l0_0 l0_1 t405 t408) else (laws_FnExactCoverWinding.j0 k a1 l2 a3 t401 t404 t412 t415 t418 true l0_0 l0_1 t405 t408)) = some r := H
    have A43 := Aside0.mk A430
    clear A430
    by_cases c44 : t419 = true
    ·subst c44
     have H1 : (laws_FnExactCoverWinding.j0 k a1 l2 a3 t401 t404 t412 t415 t418 (t418 != t404) l0_0 l0_1 t405 t408) = some r := by rw [if_pos rfl] at H; exact H
     clear H
     have H := H1
     clear H1
     have H' := Aside0.mk H
     clear H
     obtain ⟨Ao45, co45, eo45⟩ := Kd.R_slice HO417.out
     subst eo45
     obtain ⟨Ao46, co46, eo46⟩ := Kd.R_slice HO403.out
     subst eo46
     go_wp2_with (first | ((with_reducible refine gate_callee (f := 31) rfl ?_); refine goesL_ (some 55) rfl rfl Try.func31 (by kernel_rfl) rfl #[.slice Ao45 t415.length co45, .slice Ao46 t401.length co46] rfl (by (try simp only [List.map_toArray, List.map_cons, List.map_nil]); first | done | rfl | (simp only [List.length_drop, List.length_take]; rfl)) ?_; (with_reducible refine (laws_eqIntS.calls k _ _ t415 _ _ t401 true _ ?side1 ?side2 ?side3 ?side4 A43.out).mono ?_); (case side1 => repeat (first | exact (Kd.R_reads' HO417.out).2.2 | (with_reducible refine Kd.C_alloc ?_ _))); (case side2 => exact (Kd.R_reads' HO417.out).2.1); (case side3 => repeat (first | exact (Kd.R_reads' HO403.out).2.2 | (with_reducible refine Kd.C_alloc ?_ _))); (case side4 => exact (Kd.R_reads' HO403.out).2.1); rintro e w' ⟨rfl, ⟨nd, rfl⟩⟩; refine ⟨_, rfl, ?_⟩))
     go_meet
     case rel => exact ⟨_, ((t418 != t404)), (by first | rfl | (simp; done) | (simp [*]; done)), H', ⟨by first | omega | exact Nat.le_refl _⟩, ⟨by (with_reducible repeat (first | apply Kd.R_alloc | apply Kd.R_drewN | apply Kd.R_drew)); exact Kd.R_mono HO403.out (fun _ hk => ⟨hk.2, ⟨hk.1.1.2, hk.1.2⟩⟩)⟩, ⟨by (with_reducible repeat (first | apply Kd.S_alloc | apply Kd.S_drewN | apply Kd.S_drew)); exact Kd.S_mono HO414.out (fun _ hk => ⟨hk.1.1.1.2, ⟨hk.2, ⟨hk.1.1.2, hk.1.2⟩⟩⟩)⟩, ⟨by (with_reducible repeat (first | apply Kd.R_alloc | apply Kd.R_drewN | apply Kd.R_drew)); exact Kd.R_mono HO417.out (fun _ hk => ⟨hk.1.1.2, ⟨hk.1.2, hk.2⟩⟩)⟩, ⟨by (with_reducible repeat (first | apply Kd.R_alloc | apply Kd.R_drewN | apply Kd.R_drew)); exact Kd.R_mono HO407.out (fun _ hk => ⟨hk.1.2, ⟨hk.2, hk.1.1.1.1⟩⟩)⟩, ⟨by (with_reducible repeat (first | apply Kd.R_alloc | apply Kd.R_drewN | apply Kd.R_drew)); exact Kd.R_mono HO410.out (fun _ hk => ⟨hk.1.2, ⟨hk.2, hk.1.1.1.1⟩⟩)⟩, ⟨by (with_reducible repeat (first | refine blk_drewN ?_ _ | refine blk_drew ?_ | refine blk_alloc ?_ _)); exact BK389.out⟩, ⟨by (with_reducible repeat (first | refine blk_drewN ?_ _ | refine blk_drew ?_ | refine blk_alloc ?_ _)); exact BK411.out⟩, ⟨by repeat (first | (with_reducible first | exact HB.out | apply below_alloc | apply pw_below_drewN | apply below_drew1 | refine below_set ?_ GE389.out | refine below_set ?_ GE411.out) | exact HB.out)⟩⟩
    ·replace c44 := Bool.eq_false_iff.mpr c44
     subst c44
     have H1 : (laws_FnExactCoverWinding.j0 k a1 l2 a3 t401 t404 t412 t415 t418 true l0_0 l0_1 t405 t408) = some r := by rw [if_neg (show ¬ (false = true) by decide)] at H; exact H
     clear H
     have H := H1
     clear H1
     have H' := Aside0.mk H
     clear H
     obtain ⟨Ao47, co47, eo47⟩ := Kd.R_slice HO417.out
     subst eo47
     obtain ⟨Ao48, co48, eo48⟩ := Kd.R_slice HO403.out
     subst eo48
     go_wp2_with (first | ((with_reducible refine gate_callee (f := 31) rfl ?_); refine goesL_ (some 55) rfl rfl Try.func31 (by kernel_rfl) rfl #[.slice Ao47 t415.length co47, .slice Ao48 t401.length co48] rfl (by (try simp only [List.map_toArray, List.map_cons, List.map_nil]); first | done | rfl | (simp only [List.length_drop, List.length_take]; rfl)) ?_; (with_reducible refine (laws_eqIntS.calls k _ _ t415 _ _ t401 false _ ?side1 ?side2 ?side3 ?side4 A43.out).mono ?_); (case side1 => repeat (first | exact (Kd.R_reads' HO417.out).2.2 | (with_reducible refine Kd.C_alloc ?_ _))); (case side2 => exact (Kd.R_reads' HO417.out).2.1); (case side3 => repeat (first | exact (Kd.R_reads' HO403.out).2.2 | (with_reducible refine Kd.C_alloc ?_ _))); (case side4 => exact (Kd.R_reads' HO403.out).2.1); rintro e w' ⟨rfl, ⟨nd, rfl⟩⟩; refine ⟨_, rfl, ?_⟩))
     go_meet
     case rel => exact ⟨_, (true), (by first | rfl | (simp; done) | (simp [*]; done)), H', ⟨by first | omega | exact Nat.le_refl _⟩, ⟨by (with_reducible repeat (first | apply Kd.R_alloc | apply Kd.R_drewN | apply Kd.R_drew)); exact Kd.R_mono HO403.out (fun _ hk => ⟨hk.2, ⟨hk.1.1.2, hk.1.2⟩⟩)⟩, ⟨by (with_reducible repeat (first | apply Kd.S_alloc | apply Kd.S_drewN | apply Kd.S_drew)); exact Kd.S_mono HO414.out (fun _ hk => ⟨hk.1.1.1.2, ⟨hk.2, ⟨hk.1.1.2, hk.1.2⟩⟩⟩)⟩, ⟨by (with_reducible repeat (first | apply Kd.R_alloc | apply Kd.R_drewN | apply Kd.R_drew)); exact Kd.R_mono HO417.out (fun _ hk => ⟨hk.1.1.2, ⟨hk.1.2, hk.2⟩⟩)⟩, ⟨by (with_reducible repeat (first | apply Kd.R_alloc | apply Kd.R_drewN | apply Kd.R_drew)); exact Kd.R_mono HO407.out (fun _ hk => ⟨hk.1.2, ⟨hk.2, hk.1.1.1.1⟩⟩)⟩, ⟨by (with_reducible repeat (first | apply Kd.R_alloc | apply Kd.R_drewN | apply Kd.R_drew)); exact Kd.R_mono HO410.out (fun _ hk => ⟨hk.1.2, ⟨hk.2, hk.1.1.1.1⟩⟩)⟩, ⟨by (with_reducible repeat (first | refine blk_drewN ?_ _ | refine blk_drew ?_ | refine blk_alloc ?_ _)); exact BK389.out⟩, ⟨by (with_reducible repeat (first | refine blk_drewN ?_ _ | refine blk_drew ?_ | refine blk_alloc ?_ _)); exact BK411.out⟩, ⟨by repeat (first | (with_reducible first | exact HB.out | apply below_alloc | apply pw_below_drewN | apply below_drew1 | refine below_set ?_ GE389.out | refine below_set ?_ GE411.out) | exact HB.out)⟩⟩
   case rest =>
    clear HC21
    try clear c1
    try clear c2
    try clear p2
    try clear c3
    try clear c4
    try clear c6
    try clear c6b0
    try clear c10
    try clear c11
    try clear c11b0
    try clear c15
    try clear c16
    try clear c18
    try clear c19
    try clear c31
    try clear c36
    try clear c43
    try clear c44
    try clear hcz13_0
    try clear hcz13_1
    try clear hcz23_0
    try clear hcz23_1
    try clear hcz25_0
    try clear hcz25_1
    try clear hcz32_0
    try clear hcz32_1
    try clear hcz37_0
    try clear hcz37_1
    try clear hcz40_0
    try clear hcz40_1
    try clear hcz8_0
    try clear hcz8_1
    try clear hfz13_0
    try clear hfz13_1
    try clear hfz23_0
    try clear hfz23_1
    try clear hfz25_0
    try clear hfz25_1
    try clear hfz32_0
    try clear hfz32_1
    try clear hfz37_0
    try clear hfz37_1
    try clear hfz40_0
    try clear hfz40_1
    try clear hfz8_0
    try clear hfz8_1
    obtain ⟨kq, x61_20, rfl, HA, HJ20, HO_10, HO_13, HO_14, HO_412000, HO_412001, BK389, BK411, HB⟩ := hcut
    cases kq with
    | zero => exact absurd HA.out (by simp [laws_FnExactCoverWinding.j0])
    | succ kj20 =>
     have H := HA.out
     clear HA
     simp only [laws_FnExactCoverWinding.j0] at H
     by_cases c49 : x61_20 = true
     ·subst c49
      have H1 : (some false) = some r := by rw [if_pos rfl] at H; exact H
      clear H
      have H := H1
      clear H1
      obtain rfl := Option.some.inj H
      go_wp2
      go_ret
      exact ⟨by first | rfl | (simp [errW_none, errW_some] <;> rfl) | (simp [*, errW_none, errW_some] <;> rfl), by repeat (first | (with_reducible first | exact HB.out | apply below_alloc | apply pw_below_drewN | apply below_drew1 | refine below_set ?_ GE389.out | refine below_set ?_ GE411.out) | exact HB.out)⟩
     ·replace c49 := Bool.eq_false_iff.mpr c49
      subst c49
      have H1 : ((laws_toMap.f kj20 l0_0 l0_1).bind fun bt420 => ((laws_eqMap.f kj20 t405 t408 bt420.1 bt420.2).bind fun t426 => (if t426 = true then ((laws_toIntSS.f kj20 l2).bind fun t427 => ((laws_eqIntSS.f kj20 t412 t427).bind fun t430 => (if t430 = true then ((laws_markMap.f kj20 t405 t408 1).bind fun bt431 => ((laws_markIntSS.f kj20 t412 bt431.1).bind fun t434 => (if t434 < 0 then (laws_FnExactCoverWinding.j1 kj20 a1 l2 a3 t401 t404 t415 true l0_0 l0_1) else ((laws_eqIntS.f kj20 t415 t401).bind fun t435 => (if t435 = true then (laws_FnExactCoverWinding.j1 kj20 a1 l2 a3 t401 t404 t415 (t418 != t404) l0_0 l0_1) else (laws_FnExactCoverWinding.j1 kj20 a1 l2 a3 t401 t404 t415 true l0_0 l0_1)))))) else (some false)))) else (some false)))) = some r := by rw [if_neg (show ¬ (false = true) by decide)] at H; exact H
      clear H
      have H := H1
      clear H1
      replace H := Option.bind_eq_some_iff.mp H
      obtain ⟨⟨t420, t423⟩, A500, H⟩ := H
      replace H : ((laws_eqMap.f kj20 t405 t408 t420 t423).bind fun t426 => (if t426 = true then ((laws_toIntSS.f kj20 l2).bind fun t427 => ((laws_eqIntSS.f kj20 t412 t427).bind fun t430 => (if t430 = true then ((laws_markMap.f kj20 t405 t408 1).bind fun bt431 => ((laws_markIntSS.f kj20 t412 bt431.1).bind fun t434 => (if t434 < 0 then (laws_FnExactCoverWinding.j1 kj20 a1 l2 a3 t401 t404 t415 true l0_0 l0_1) else ((laws_eqIntS.f kj20 t415 t401).bind fun t435 => (if t435 = true then (laws_FnExactCoverWinding.j1 kj20 a1 l2 a3 t401 t404 t415 (t418 != t404) l0_0 l0_1) else (laws_FnExactCoverWinding.j1 kj20 a1 l2 a3 t401 t404 t415 true l0_0 l0_1)))))) else (some false)))) else (some false))) = some r := H
      have A50 := Aside0.mk A500
      clear A500
      replace H := Option.bind_eq_some_iff.mp H
      obtain ⟨t426, A510, H⟩ := H
      replace H : (if t426 = true then ((laws_toIntSS.f kj20 l2).bind fun t427 => ((laws_eqIntSS.f kj20 t412 t427).bind fun t430 => (if t430 = true then ((laws_markMap.f kj20 t405 t408 1).bind fun bt431 => ((laws_markIntSS.f kj20 t412 bt431.1).bind fun t434 => (if t434 < 0 then (laws_FnExactCoverWinding.j1 kj20 a1 l2 a3 t401 t404 t415 true l0_0 l0_1) else ((laws_eqIntS.f kj20 t415 t401).bind fun t435 => (if t435 = true then (laws_FnExactCoverWinding.j1 kj20 a1 l2 a3 t401 t404 t415 (t418 != t404) l0_0 l0_1) else (laws_FnExactCoverWinding.j1 kj20 a1 l2 a3 t401 t404 t415 true l0_0 l0_1)))))) else (some false)))) else (some false)) = some r := H
      have A51 := Aside0.mk A510
      clear A510
      by_cases c52 : t426 = true
      ·subst c52
       have H1 : ((laws_toIntSS.f kj20 l2).bind fun t427 => ((laws_eqIntSS.f kj20 t412 t427).bind fun t430 => (if t430 = true then ((laws_markMap.f kj20 t405 t408 1).bind fun bt431 => ((laws_markIntSS.f kj20 t412 bt431.1).bind fun t434 => (if t434 < 0 then (laws_FnExactCoverWinding.j1 kj20 a1 l2 a3 t401 t404 t415 true l0_0 l0_1) else ((laws_eqIntS.f kj20 t415 t401).bind fun t435 => (if t435 = true then (laws_FnExactCoverWinding.j1 kj20 a1 l2 a3 t401 t404 t415 (t418 != t404) l0_0 l0_1) else (laws_FnExactCoverWinding.j1 kj20 a1 l2 a3 t401 t404 t415 true l0_0 l0_1)))))) else (some false)))) = some r := by rw [if_pos rfl] at H; exact H
       clear H
       have H := H1
       clear H1
       replace H := Option.bind_eq_some_iff.mp H
       obtain ⟨t427, A530, H⟩ := H
       replace H : ((laws_eqIntSS.f kj20 t412 t427).bind fun t430 => (if t430 = true then ((laws_markMap.f kj20 t405 t408 1).bind fun bt431 => ((laws_markIntSS.f kj20 t412 bt431.1).bind fun t434 => (if t434 < 0 then (laws_FnExactCoverWinding.j1 kj20 a1 l2 a3 t401 t404 t415 true l0_0 l0_1) else ((laws_eqIntS.f kj20 t415 t401).bind fun t435 => (if t435 = true then (laws_FnExactCoverWinding.j1 kj20 a1 l2 a3 t401 t404 t415 (t418 != t404) l0_0 l0_1) else (laws_FnExactCoverWinding.j1 kj20 a1 l2 a3 t401 t404 t415 true l0_0 l0_1)))))) else (some false))) = some r := H
       have A53 := Aside0.mk A530
       clear A530
       replace H := Option.bind_eq_some_iff.mp H
       obtain ⟨t430, A540, H⟩ := H
       replace H : (if t430 = true then ((laws_markMap.f kj20 t405 t408 1).bind fun bt431 => ((laws_markIntSS.f kj20 t412 bt431.1).bind fun t434 => (if t434 < 0 then (laws_FnExactCoverWinding.j1 kj20 a1 l2 a3 t401 t404 t415 true l0_0 l0_1) else ((laws_eqIntS.f kj20 t415 t401).bind fun t435 => (if t435 = true then (laws_FnExactCoverWinding.j1 kj20 a1 l2 a3 t401 t404 t415 (t418 != t404) l0_0 l0_1) else (laws_FnExactCoverWinding.j1 kj20 a1 l2 a3 t401 t404 t415 true l0_0 l0_1)))))) else (some false)) = some r := H
       have A54 := Aside0.mk A540
       clear A540
       by_cases c55 : t430 = true
       ·subst c55
        have H1 : ((laws_markMap.f kj20 t405 t408 1).bind fun bt431 => ((laws_markIntSS.f kj20 t412 bt431.1).bind fun t434 => (if t434 < 0 then (laws_FnExactCoverWinding.j1 kj20 a1 l2 a3 t401 t404 t415 true l0_0 l0_1) else ((laws_eqIntS.f kj20 t415 t401).bind fun t435 => (if t435 = true then (laws_FnExactCoverWinding.j1 kj20 a1 l2 a3 t401 t404 t415 (t418 != t404) l0_0 l0_1) else (laws_FnExactCoverWinding.j1 kj20 a1 l2 a3 t401 t404 t415 true l0_0 l0_1)))))) = some r := by rw [if_pos rfl] at H; exact H
        clear H
        have H := H1
        clear H1
        replace H := Option.bind_eq_some_iff.mp H
        obtain ⟨⟨t431, t432, t433⟩, A560, H⟩ := H
        replace H : ((laws_markIntSS.f kj20 t412 t431).bind fun t434 => (if t434 < 0 then (laws_FnExactCoverWinding.j1 kj20 a1 l2 a3 t401 t404 t415 true l0_0 l0_1) else ((laws_eqIntS.f kj20 t415 t401).bind fun t435 => (if t435 = true then (laws_FnExactCoverWinding.j1 kj20 a1 l2 a3 t401 t404 t415 (t418 != t404) l0_0 l0_1) else (laws_FnExactCoverWinding.j1 kj20 a1 l2 a3 t401 t404 t415 true l0_0 l0_1))))) = some r := H
        have A56 := Aside0.mk A560
        clear A560
        replace H := Option.bind_eq_some_iff.mp H
        obtain ⟨t434, A570, H⟩ := H
        replace H : (if t434 < 0 then (laws_FnExactCoverWinding.j1 kj20 a1 l2 a3 t401 t404 t415 true l0_0 l0_1) else ((laws_eqIntS.f kj20 t415 t401).bind fun t435 => (if t435 = true then (laws_FnExactCoverWinding.j1 kj20 a1 l2 a3 t401 t404 t415 (t418 != t404) l0_0 l0_1) else (laws_FnExactCoverWinding.j1 kj20 a1 l2 a3 t401 t404 t415 true l0_0 l0_1)))) = some r := H
        have A57 := Aside0.mk A570
        clear A570
        have HC58 := Aside0.mk H
        clear H
        try go_wp2
        have n0_ := Aside0.mk (Kd.R_drew HO_10.out)
        have n1_ := Aside0.mk (Kd.S_drew HO_13.out)
        have n2_ := Aside0.mk (Kd.R_drew HO_14.out)
        have n3_ := Aside0.mk (Kd.R_drew HO_412000.out)
        have n4_ := Aside0.mk (Kd.R_drew HO_412001.out)
        have n5_ := Aside0.mk (blk_drew BK389.out)
        have n6_ := Aside0.mk (blk_drew BK411.out)
        have n7_ := Aside0.mk (below_drew1 HB.out)
        clear HO_10
        clear HO_13
        clear HO_14
        clear HO_412000
        clear HO_412001
        clear BK389
        clear BK411
        clear HB
        have HO_10 := n0_
        have HO_13 := n1_
        have HO_14 := n2_
        have HO_412000 := n3_
        have HO_412001 := n4_
        have BK389 := n5_
        have BK411 := n6_
        have HB := n7_
        clear n0_ n1_ n2_ n3_ n4_ n5_ n6_ n7_
        refine start_ (n := 5) (S := fun w' => w'.cell? ⟨gb411, 0, none⟩ = some (.slice Ao35 t405.length co35) ∧ w'.cell? ⟨gb411, 1, none⟩ = some (.slice Ao38 t408.length co38) ∧ w'.cell? ⟨gb389, 0, none⟩ = some (.slice A0_0 l0_0.length c0_0) ∧ w'.cell? ⟨gb389, 1, none⟩ = some (.slice A0_1 l0_1.length c0_1)) (ds := []) #[false, false, false, false, false] (by kernel_rfl) rfl rfl ⟨(blk_cell BK411.out 0).trans rfl, (blk_cell BK411.out 1).trans rfl, (blk_cell BK389.out 0).trans rfl, (blk_cell BK389.out 1).trans rfl⟩ (fun hHeld => ?_)
        generalize wc.drew = w59 at HO_10 HO_13 HO_14 HO_412000 HO_412001 BK389 BK411 HB hHeld ⊢
        refine take_ (i := 0) (N := some 62) (v := ?_) (a' := ?_) #[true, false, false, false, false] rfl rfl (by kernel_rfl) (fun _ _ _ h => h) (Or.inl ⟨by rfl, ?_⟩) hHeld ?_ ?_
        rotate_left
        ·rintro w' ⟨s0, s1, s2, s3⟩
         go_simp
         with_reducible rfl
        rotate_left
        ·simp only [Act.put, List.setIfInBounds_toArray, List.set_cons_zero, List.set_cons_succ, i64_w, i32_w]
         rfl
        refine take_ (i := 1) (N := some 63) (v := ?_) (a' := ?_) #[true, true, false, false, false] rfl rfl (by kernel_rfl) (fun _ _ _ h => h) (Or.inl ⟨by rfl, ?_⟩) hHeld ?_ ?_
        rotate_left
        ·rintro w' ⟨s0, s1, s2, s3⟩
         go_simp
         with_reducible rfl
        rotate_left
        ·simp only [Act.put, List.setIfInBounds_toArray, List.set_cons_zero, List.set_cons_succ, i64_w, i32_w]
         rfl
        refine one_ (i := 2) (N := some 64) #[true, true, true, false, false] rfl rfl (by kernel_rfl) (by decide) (fun K hK => ?_)
        refine goes_ Try.func18 (by kernel_rfl) rfl #[.agg #[.slice A0_0 l0_0.length c0_0, .slice A0_1 l0_1.length c0_1]] (by rfl) rfl rfl (by (try simp only [List.map_toArray, List.map_cons, List.map_nil]); first | done | rfl | (simp only [List.length_drop, List.length_take]; rfl)) ?_
        with_reducible refine (laws_toMap.calls kj20 _ _ l0_0 _ _ l0_1 t420 t423 _ ?side1 ?side2 ?side3 ?side4 A50.out).mono ?_
        (case side1 => repeat (first | exact (Kd.C_below HR0_0.out HB.out) | (with_reducible refine Kd.C_alloc ?_ _) | (with_reducible refine Kd.C_drewN ?_ _) | (with_reducible refine Kd.C_drew ?_)))
        (case side2 => exact HC0_0.out)
        (case side3 => repeat (first | exact (Kd.C_below HR0_1.out HB.out) | (with_reducible refine Kd.C_alloc ?_ _) | (with_reducible refine Kd.C_drewN ?_ _) | (with_reducible refine Kd.C_drew ?_)))
        (case side4 => exact HC0_1.out)
        rintro e w60 ⟨v421, v424, rfl, ho0, ho1, hb⟩
        refine ⟨_, rfl, ?_⟩
        have n0_ := Aside0.mk (Kd.R_mono (Kd.R_told (Kd.R_told (Kd.R_old (by (with_reducible repeat (first | apply Kd.R_alloc | apply Kd.R_drewN | apply Kd.R_drew)); exact HO_10.out) hb) (Kd.R_base ho0)) (Kd.R_base ho1)) (fun _ h_ => h_.1))
        have n1_ := Aside0.mk (Kd.S_mono (Kd.S_told (Kd.S_told (Kd.S_old (by (with_reducible repeat (first | apply Kd.S_alloc | apply Kd.S_drewN | apply Kd.S_drew)); exact HO_13.out) hb) (Kd.R_base ho0)) (Kd.R_base ho1)) (fun _ h_ => h_.1))
        have n2_ := Aside0.mk (Kd.R_mono (Kd.R_told (Kd.R_told (Kd.R_old (by (with_reducible repeat (first | apply Kd.R_alloc | apply Kd.R_drewN | apply Kd.R_drew)); exact HO_14.out) hb) (Kd.R_base ho0)) (Kd.R_base ho1)) (fun _ h_ => h_.1))
        have n3_ := Aside0.mk (Kd.R_mono (Kd.R_told (Kd.R_told (Kd.R_old (by (with_reducible repeat (first | apply Kd.R_alloc | apply Kd.R_drewN | apply Kd.R_drew)); exact HO_412000.out) hb) (Kd.R_base ho0)) (Kd.R_base ho1)) (fun _ h_ => h_.1))
        have n4_ := Aside0.mk (Kd.R_mono (Kd.R_told (Kd.R_told (Kd.R_old (by (with_reducible repeat (first | apply Kd.R_alloc | apply Kd.R_drewN | apply Kd.R_drew)); exact HO_412001.out) hb) (Kd.R_base ho0)) (Kd.R_base ho1)) (fun _ h_ => h_.1))
        have n5_ := Aside0.mk (Kd.R_lower (Kd.R_new' (Kd.R_new' (Kd.R_new' (Kd.R_new' ho0 (Kd.R_lt (by (with_reducible repeat (first | apply Kd.R_alloc | apply Kd.R_drewN | apply Kd.R_drew)); exact HO_10.out))) (Kd.R_lt (by (with_reducible repeat (first | apply Kd.R_alloc | apply Kd.R_drewN | apply Kd.R_drew)); exact HO_14.out))) (Kd.R_lt (by (with_reducible repeat (first | apply Kd.R_alloc | apply Kd.R_drewN | apply Kd.R_drew)); exact HO_412000.out))) (Kd.R_lt (by (with_reducible repeat (first | apply Kd.R_alloc | apply Kd.R_drewN | apply Kd.R_drew)); exact HO_412001.out))) (below_size (by repeat (first | (with_reducible first | exact HB.out | apply below_alloc | apply pw_below_drewN | apply below_drew1 | refine below_set ?_ GE389.out | refine below_set ?_ GE411.out) | exact HB.out))))
        have n6_ := Aside0.mk (Kd.R_lower (Kd.R_new' (Kd.R_new' (Kd.R_new' (Kd.R_new' ho1 (Kd.R_lt (by (with_reducible repeat (first | apply Kd.R_alloc | apply Kd.R_drewN | apply Kd.R_drew)); exact HO_10.out))) (Kd.R_lt (by (with_reducible repeat (first | apply Kd.R_alloc | apply Kd.R_drewN | apply Kd.R_drew)); exact HO_14.out))) (Kd.R_lt (by (with_reducible repeat (first | apply Kd.R_alloc | apply Kd.R_drewN | apply Kd.R_drew)); exact HO_412000.out))) (Kd.R_lt (by (with_reducible repeat (first | apply Kd.R_alloc | apply Kd.R_drewN | apply Kd.R_drew)); exact HO_412001.out))) (below_size (by repeat (first | (with_reducible first | exact HB.out | apply below_alloc | apply pw_below_drewN | apply below_drew1 | refine below_set ?_ GE389.out | refine below_set ?_ GE411.out) | exact HB.out))))
        have n7_ := Aside0.mk (blk_below (g := gb389) (o := .cells #[.slice A0_0 l0_0.length c0_0, .slice A0_1 l0_1.length c0_1] 24 (0, 0)) (by (with_reducible repeat (first | refine blk_drewN ?_ _ | refine blk_drew ?_ | refine blk_alloc ?_ _)); exact BK389.out) hb)
        have n8_ := Aside0.mk (blk_below (g := gb411) (o := .cells #[.slice Ao35 t405.length co35, .slice Ao38 t408.length co38] 29 (0, 0)) (by (with_reducible repeat (first | refine blk_drewN ?_ _ | refine blk_drew ?_ | refine blk_alloc ?_ _)); exact BK411.out) hb)
        have n9_ := Aside0.mk (below_step (by repeat (first | (with_reducible first | exact HB.out | apply below_alloc | apply pw_below_drewN | apply below_drew1 | refine below_set ?_ GE389.out | refine below_set ?_ GE411.out) | exact HB.out)) hb)
        clear HO_10
        clear HO_13
        clear HO_14
        clear HO_412000
        clear HO_412001
        clear BK389
        clear BK411
        clear HB
        have HO_10 := n0_
        have HO_13 := n1_
        have HO_14 := n2_
        have HO_412000 := n3_
        have HO_412001 := n4_
        have HO422 := n5_
        have HO425 := n6_
        have BK389 := n7_
        have BK411 := n8_
        have HB := n9_
        clear n0_ n1_ n2_ n3_ n4_ n5_ n6_ n7_ n8_ n9_
        (try clear hb)
        (try clear hb2)
        (try clear hk)
        (try clear hi)
        (try clear ho0)
        (try clear ho1)
        obtain ⟨Ao61, co61, eo61⟩ := Kd.R_slice HO422.out
        (first | subst eo61 | (injection eo61 with f1_ f2_ f3_; have f4_ := f1_.symm; have f5_ := f3_.symm; clear f1_ f2_ f3_; subst f4_; subst f5_))
        obtain ⟨Ao62, co62, eo62⟩ := Kd.R_slice HO425.out
        (first | subst eo62 | (injection eo62 with f1_ f2_ f3_; have f4_ := f1_.symm; have f5_ := f3_.symm; clear f1_ f2_ f3_; subst f4_; subst f5_))
        refine hK.out _ _ ⟨(blk_cell BK411.out 0).trans rfl, (blk_cell BK411.out 1).trans rfl, (blk_cell BK389.out 0).trans rfl, (blk_cell BK389.out 1).trans rfl⟩ (fun hHeld => ?_)
        clear hK K
        refine norm_ (a' := ?_) ?_ ?_
        rotate_left
        ·show Act.put _ (some 64) _ = _
         simp only [Act.put, List.setIfInBounds_toArray, List.set_cons_zero, List.set_cons_succ, i64_w, i32_w]
         rfl
        refine one_ (i := 3) (N := some 65) #[true, true, true, true, false] rfl rfl (by kernel_rfl) (by decide) (fun K hK => ?_)
        refine goes_ Try.func21 (by kernel_rfl) rfl #[.agg #[.slice Ao35 t405.length co35, .slice Ao38 t408.length co38], .agg #[.slice Ao61 t420.length co61, .slice Ao62 t423.length co62]] (by rfl) rfl rfl (by (try simp only [List.map_toArray, List.map_cons, List.map_nil]); first | done | rfl | (simp only [List.length_drop, List.length_take]; rfl)) ?_
        with_reducible refine (laws_eqMap.calls kj20 _ _ t405 _ _ t408 _ _ t420 _ _ t423 true _ ?side1 ?side2 ?side3 ?side4 ?side5 ?side6 ?side7 ?side8 A51.out).mono ?_
        (case side1 => repeat (first | exact (Kd.R_reads' HO_412000.out).2.2 | (with_reducible refine Kd.C_alloc ?_ _) | (with_reducible refine Kd.C_drewN ?_ _) | (with_reducible refine Kd.C_drew ?_)))
        (case side2 => exact (Kd.R_reads' HO_412000.out).2.1)
        (case side3 => repeat (first | exact (Kd.R_reads' HO_412001.out).2.2 | (with_reducible refine Kd.C_alloc ?_ _) | (with_reducible refine Kd.C_drewN ?_ _) | (with_reducible refine Kd.C_drew ?_)))
        (case side4 => exact (Kd.R_reads' HO_412001.out).2.1)
        (case side5 => repeat (first | exact (Kd.R_reads' HO422.out).2.2 | (with_reducible refine Kd.C_alloc ?_ _) | (with_reducible refine Kd.C_drewN ?_ _) | (with_reducible refine Kd.C_drew ?_)))
        (case side6 => exact (Kd.R_reads' HO422.out).2.1)
        (case side7 => repeat (first | exact (Kd.R_reads' HO425.out).2.2 | (with_reducible refine Kd.C_alloc ?_ _) | (with_reducible refine Kd.C_drewN ?_ _) | (with_reducible refine Kd.C_drew ?_)))
        (case side8 => exact (Kd.R_reads' HO425.out).2.1)
        rintro e w63 ⟨rfl, hb⟩
        refine ⟨_, rfl, ?_⟩
        have n0_ := Aside0.mk (Kd.R_below (by (with_reducible repeat (first | apply Kd.R_alloc | apply Kd.R_drewN | apply Kd.R_drew)); exact HO_10.out) hb)
        have n1_ := Aside0.mk (Kd.S_below (by (with_reducible repeat (first | apply Kd.S_alloc | apply Kd.S_drewN | apply Kd.S_drew)); exact HO_13.out) hb)
        have n2_ := Aside0.mk (Kd.R_below (by (with_reducible repeat (first | apply Kd.R_alloc | apply Kd.R_drewN | apply Kd.R_drew)); exact HO_14.out) hb)
        have n3_ := Aside0.mk (Kd.R_below (by (with_reducible repeat (first | apply Kd.R_alloc | apply Kd.R_drewN | apply Kd.R_drew)); exact HO_412000.out) hb)
        have n4_ := Aside0.mk (Kd.R_below (by (with_reducible repeat (first | apply Kd.R_alloc | apply Kd.R_drewN | apply Kd.R_drew)); exact HO_412001.out) hb)
        have n5_ := Aside0.mk (Kd.R_below (by (with_reducible repeat (first | apply Kd.R_alloc | apply Kd.R_drewN | apply Kd.R_drew)); exact HO422.out) hb)
        have n6_ := Aside0.mk (Kd.R_below (by (with_reducible repeat (first | apply Kd.R_alloc | apply Kd.R_drewN | apply Kd.R_drew)); exact HO425.out) hb)
        have n7_ := Aside0.mk (blk_below (g := gb389) (o := .cells #[.slice A0_0 l0_0.length c0_0, .slice A0_1 l0_1.length c0_1] 24 (0, 0)) (by (with_reducible repeat (first | refine blk_drewN ?_ _ | refine blk_drew ?_ | refine blk_alloc ?_ _)); exact BK389.out) hb)
        have n8_ := Aside0.mk (blk_below (g := gb411) (o := .cells #[.slice Ao35 t405.length co35, .slice Ao38 t408.length co38] 29 (0, 0)) (by (with_reducible repeat (first | refine blk_drewN ?_ _ | refine blk_drew ?_ | refine blk_alloc ?_ _)); exact BK411.out) hb)
        have n9_ := Aside0.mk (below_step (by repeat (first | (with_reducible first | exact HB.out | apply below_alloc | apply pw_below_drewN | apply below_drew1 | refine below_set ?_ GE389.out | refine below_set ?_ GE411.out) | exact HB.out)) hb)
        clear HO_10
        clear HO_13
        clear HO_14
        clear HO_412000
        clear HO_412001
        clear HO422
        clear HO425
        clear BK389
        clear BK411
        clear HB
        have HO_10 := n0_
        have HO_13 := n1_
        have HO_14 := n2_
        have HO_412000 := n3_
        have HO_412001 := n4_
        have HO422 := n5_
        have HO425 := n6_
        have BK389 := n7_
        have BK411 := n8_
        have HB := n9_
        clear n0_ n1_ n2_ n3_ n4_ n5_ n6_ n7_ n8_ n9_
        (try clear hb)
        (try clear hb2)
        (try clear hk)
        (try clear hi)
        refine hK.out _ _ ⟨(blk_cell BK411.out 0).trans rfl, (blk_cell BK411.out 1).trans rfl, (blk_cell BK389.out 0).trans rfl, (blk_cell BK389.out 1).trans rfl⟩ (fun hHeld => ?_)
        clear hK K
        refine norm_ (a' := ?_) ?_ ?_
        rotate_left
        ·show Act.put _ (some 65) _ = _
         simp only [Act.put, List.setIfInBounds_toArray, List.set_cons_zero, List.set_cons_succ, i64_w, i32_w]
         rfl
        refine pure_ (i := 4) (N := some 66) (v := ?_) (a' := ?_) #[true, true, true, true, true] rfl rfl (by kernel_rfl) (fun _ _ _ h => h) (Or.inl ⟨by rfl, ?_⟩) ?_ ?_
        rotate_left
        ·intro w'
         go_simp
         with_reducible rfl
        rotate_left
        ·simp only [Act.put, List.setIfInBounds_toArray, List.set_cons_zero, List.set_cons_succ, i64_w, i32_w]
         rfl
        refine done_ (by kernel_rfl) ?_
        go_upto_region 21 with (first | ((with_reducible refine gate_callee (f := 19) rfl ?_); refine goesL_ (some 69) rfl rfl Try.func19 (by kernel_rfl) rfl #[.slice A2 l2.length c2] rfl (by (try simp only [List.map_toArray, List.map_cons, List.map_nil]); first | done | rfl | (simp only [List.length_drop, List.length_take]; rfl)) ?_; (with_reducible refine (laws_toIntSS.calls kj20 _ _ l2 t427 _ ?side1 ?side2 A53.out).mono ?_); (case side1 => repeat (first | exact (Kd.C_below HR2.out HB.out) | (with_reducible refine Kd.C_alloc ?_ _))); (case side2 => exact HC2.out); rintro e w64 ⟨v428, rfl, ho0, hb⟩; refine ⟨_, rfl, ?_⟩; have n0_ := Aside0.mk (Kd.R_below (by (with_reducible repeat apply Kd.R_alloc); exact HO_10.out) hb); have n1_ := Aside0.mk (Kd.S_elder' (by (with_reducible repeat apply Kd.S_alloc); exact HO_13.out) (Kd.S_base ho0) hb); have n2_ := Aside0.mk (Kd.R_below (by (with_reducible repeat apply Kd.R_alloc); exact HO_14.out) hb); have n3_ := Aside0.mk (Kd.R_below (by (with_reducible repeat apply Kd.R_alloc); exact HO_412000.out) hb); have n4_ := Aside0.mk (Kd.R_below (by (with_reducible repeat apply Kd.R_alloc); exact HO_412001.out) hb); have n5_ := Aside0.mk (Kd.R_below (by (with_reducible repeat apply Kd.R_alloc); exact HO422.out) hb); have n6_ := Aside0.mk (Kd.R_below (by (with_reducible repeat apply Kd.R_alloc); exact HO425.out) hb); have n7_ := Aside0.mk (Kd.S_lower (Kd.S_new' (Kd.S_new' (Kd.S_new' (Kd.S_new' (Kd.S_new' (Kd.S_new' (Kd.S_new' ho0 (Kd.R_lt (by (with_reducible repeat apply Kd.R_alloc); exact HO_10.out))) (Kd.S_lt (by (with_reducible repeat apply Kd.S_alloc); exact HO_13.out))) (Kd.R_lt (by (with_reducible repeat apply Kd.R_alloc); exact HO_14.out))) (Kd.R_lt (by (with_reducible repeat apply Kd.R_alloc); exact HO_412000.out))) (Kd.R_lt (by (with_reducible repeat apply Kd.R_alloc); exact HO_412001.out))) (Kd.R_lt (by (with_reducible repeat apply Kd.R_alloc); exact HO422.out))) (Kd.R_lt (by (with_reducible repeat apply Kd.R_alloc); exact HO425.out))) (below_size (by repeat (first | (with_reducible first | exact HB.out | apply below_alloc | apply pw_below_drewN | apply below_drew1 | refine below_set ?_ GE389.out | refine below_set ?_ GE411.out) | exact HB.out)))); have n8_ := Aside0.mk (blk_below (g := gb389) (o := .cells #[.slice A0_0 l0_0.length c0_0, .slice A0_1 l0_1.length c0_1] 24 (0, 0)) (by (with_reducible repeat refine blk_alloc ?_ _); exact BK389.out) hb); have n9_ := Aside0.mk (blk_below (g := gb411) (o := .cells #[.slice Ao35 t405.length co35, .slice Ao38 t408.length co38] 29 (0, 0)) (by (with_reducible repeat refine blk_alloc ?_ _); exact BK411.out) hb); have n10_ := Aside0.mk (below_step (by repeat (first | (with_reducible first | exact HB.out | apply below_alloc | apply pw_below_drewN | apply below_drew1 | refine below_set ?_ GE389.out | refine below_set ?_ GE411.out) | exact HB.out)) hb); clear HO_10; clear HO_13; clear HO_14; clear HO_412000; clear HO_412001; clear HO422; clear HO425; clear BK389; clear BK411; clear HB; have HO_10 := n0_; have HO_13 := n1_; have HO_14 := n2_; have HO_412000 := n3_; have HO_412001 := n4_; have HO422 := n5_; have HO425 := n6_; have HO429 := n7_; have BK389 := n8_; have BK411 := n9_; have HB := n10_; clear n0_ n1_ n2_ n3_ n4_ n5_ n6_ n7_ n8_ n9_ n10_; (try clear hb); (try clear hb2); (try clear hk); (try clear hi); (try clear ho0); obtain ⟨Ao65, co65, eo65⟩ := Kd.S_slice HO429.out; subst eo65) | ((with_reducible refine gate_callee (f := 22) rfl ?_); refine goesL_ (some 70) rfl rfl Try.func22 (by kernel_rfl) rfl #[.slice Ao41 t412.length co41, .slice Ao65 t427.length co65] rfl (by (try simp only [List.map_toArray, List.map_cons, List.map_nil]); first | done | rfl | (simp only [List.length_drop, List.length_take]; rfl)) ?_; (with_reducible refine (laws_eqIntSS.calls kj20 _ _ t412 _ _ t427 true _ ?side1 ?side2 ?side3 ?side4 A54.out).mono ?_); (case side1 => repeat (first | exact (Kd.S_reads' HO_13.out).2.2 | (with_reducible refine Kd.C_alloc ?_ _))); (case side2 => exact (Kd.S_reads' HO_13.out).2.1); (case side3 => repeat (first | exact (Kd.S_reads' HO429.out).2.2 | (with_reducible refine Kd.C_alloc ?_ _))); (case side4 => exact (Kd.S_reads' HO429.out).2.1); rintro e w' ⟨rfl, ⟨nd, rfl⟩⟩; refine ⟨_, rfl, ?_⟩; have hnb66 := NB411_389.out; have hnc66 := NB389_411.out; have hcz67_0 : w64.cell? ⟨gb411, 0, none⟩ = some (.slice Ao35 t405.length co35) := (blk_cell BK411.out 0).trans rfl; have hcz67_1 : w64.cell? ⟨gb411, 1, none⟩ = some (.slice Ao38 t408.length co38) := (blk_cell BK411.out 1).trans rfl; have hfz67_0 := blk_frozen BK411.out 0; have hfz67_1 := blk_frozen BK411.out 1) | ((with_reducible refine gate_callee (f := 25) rfl ?_); refine goesL_ (some 74) rfl rfl Try.func25 (by kernel_rfl) rfl #[.agg #[.slice Ao35 t405.length co35, .slice Ao38 t408.length co38], .int .i64 1] rfl (by (try simp only [List.map_toArray, List.map_cons, List.map_nil]); first | done | rfl | (simp only [List.length_drop, List.length_take]; rfl)) ?_; (with_reducible refine (laws_markMap.calls kj20 (fun k_ => some k_ = (.slice Ao35 t405.length co35 : Value).ownBlock) (.slice Ao35 t405.length co35) t405 (fun k_ => some k_ = (.slice Ao38 t408.length co38 : Value).ownBlock) (.slice Ao38 t408.length co38) t408 1 t431 t432 t433 w _ ?side1 ?side2 ?side3 ?side4 ?side5 A56.out).mono ?_); (case side1 => repeat (first | (with_reducible first | exact HB.out | apply below_alloc | apply pw_below_drewN | apply below_drew1 | refine below_set ?_ GE389.out | refine below_set ?_ GE411.out) | exact HB.out)); (case side2 => exact Kd.R_tight rfl HO_412000.out); (case side3 => exact fun k_ e_ => (HO_412000.out.1 k_ e_.symm).1.1.2.2); (case side4 => exact Kd.R_tight rfl HO_412001.out); (case side5 => exact fun k_ e_ => (HO_412001.out.1 k_ e_.symm).1.1.2.2); rintro e w68 ⟨rfl, hy0, hy1, hb, hkp⟩; refine ⟨_, rfl, ?_⟩; have n0_ := Aside0.mk (Kd.R_mono (ok' := fun k_ => some k_ ≠ (v416 : Value).ownBlock ∧ some k_ ≠ (.slice Ao35 t405.length co35 : Value).ownBlock ∧ some k_ ≠ (.slice Ao38 t408.length co38 : Value).ownBlock ∧ some k_ ≠ (.slice Ao61 t420.length co61 : Value).ownBlock ∧ some k_ ≠ (.slice Ao62 t423.length co62 : Value).ownBlock) (Kd.R_keptB (HO_10.out) hkp (fun k_ hk_ hs_ => Or.elim hs_ (fun e_ => (hk_.1.1.2.1) e_) (fun e_ => (hk_.1.1.2.2) e_))) (fun k_ hk_ => ⟨hk_.1.1.1.1, hk_.1.1.1.2.1, hk_.1.1.1.2.2, hk_.1.1.2, hk_.1.2⟩)); have n1_ := Aside0.mk (Kd.S_mono (ok' := fun k_ => some k_ ≠ (v402 : Value).ownBlock ∧ some k_ ≠ (v416 : Value).ownBlock ∧ some k_ ≠ (.slice Ao35 t405.length co35 : Value).ownBlock ∧ some k_ ≠ (.slice Ao38 t408.length co38 : Value).ownBlock ∧ some k_ ≠ (.slice Ao61 t420.length co61 : Value).ownBlock ∧ some k_ ≠ (.slice Ao62 t423.length co62 : Value).ownBlock ∧ some k_ ≠ (.slice Ao65 t427.length co65 : Value).ownBlock) (Kd.S_keptB (HO_13.out) hkp (fun k_ hk_ hs_ => Or.elim hs_ (fun e_ => (hk_.1.1.1.2.2.1) e_) (fun e_ => (hk_.1.1.1.2.2.2) e_))) (fun k_ hk_ => ⟨hk_.1.1.1.1.1, hk_.1.1.1.1.2.1, hk_.1.1.1.1.2.2.1, hk_.1.1.1.1.2.2.2, hk_.1.1.1.2, hk_.1.1.2, hk_.1.2⟩)); have n2_ := Aside0.mk (Kd.R_mono (ok' := fun k_ => some k_ ≠ (v402 : Value).ownBlock ∧ some k_ ≠ (.slice Ao35 t405.length co35 : Value).ownBlock ∧ some k_ ≠ (.slice Ao38 t408.length co38 : Value).ownBlock ∧ some k_ ≠ (.slice Ao61 t420.length co61 : Value).ownBlock ∧ some k_ ≠ (.slice Ao62 t423.length co62 : Value).ownBlock) (Kd.R_keptB (HO_14.out) hkp (fun k_ hk_ hs_ => Or.elim hs_ (fun e_ => (hk_.1.1.2.1) e_) (fun e_ => (hk_.1.1.2.2) e_))) (fun k_ hk_ => ⟨hk_.1.1.1.1, hk_.1.1.1.2.1, hk_.1.1.1.2.2, hk_.1.1.2, hk_.1.2⟩)); have n3_ := Aside0.mk (Kd.R_reok rfl hy0 (fun k_ e_ => HO_412000.out.1 k_ e_)); have n4_ := Aside0.mk (Kd.R_reok rfl hy1 (fun k_ e_ => HO_412001.out.1 k_ e_)); have n5_ := Aside0.mk (blk_kept (by (with_reducible repeat refine blk_alloc ?_ _); exact BK389.out) hkp (fun hs_ => Or.elim hs_ (fun e_ => (fun e_ => (Kd.R_ne HO_412000.out BK389.out (by decide)) e_) e_) (fun e_ => (fun e_ => (Kd.R_ne HO_412001.out BK389.out (by decide)) e_) e_))); have n6_ := Aside0.mk (blk_kept (by (with_reducible repeat refine blk_alloc ?_ _); exact BK411.out) hkp (fun hs_ => Or.elim hs_ (fun e_ => (fun e_ => (Kd.R_ne HO_412000.out BK411.out (by decide)) e_) e_) (fun e_ => (fun e_ => (Kd.R_ne HO_412001.out BK411.out (by decide)) e_) e_))); have n7_ := Aside0.mk (Kd.R_mono (ok' := fun k_ => some k_ ≠ (v402 : Value).ownBlock ∧ some k_ ≠ (v416 : Value).ownBlock ∧ some k_ ≠ (.slice Ao35 t405.length co35 : Value).ownBlock ∧ some k_ ≠ (.slice Ao38 t408.length co38 : Value).ownBlock ∧ some k_ ≠ (.slice Ao62 t423.length co62 : Value).ownBlock) (Kd.R_keptB (HO422.out) hkp (fun k_ hk_ hs_ => Or.elim hs_ (fun e_ => (hk_.1.2) e_) (fun e_ => (hk_.2) e_))) (fun k_ hk_ => ⟨hk_.1.1.1.1.2, hk_.1.1.1.2, hk_.1.1.2, hk_.1.2, hk_.1.1.1.1.1⟩)); have n8_ := Aside0.mk (Kd.R_mono (ok' := fun k_ => some k_ ≠ (v402 : Value).ownBlock ∧ some k_ ≠ (v416 : Value).ownBlock ∧ some k_ ≠ (.slice Ao35 t405.length co35 : Value).ownBlock ∧ some k_ ≠ (.slice Ao38 t408.length co38 : Value).ownBlock ∧ some k_ ≠ (.slice Ao61 t420.length co61 : Value).ownBlock) (Kd.R_keptB (HO425.out) hkp (fun k_ hk_ hs_ => Or.elim hs_ (fun e_ => (hk_.1.2) e_) (fun e_ => (hk_.2) e_))) (fun k_ hk_ => ⟨hk_.1.1.1.1.2, hk_.1.1.1.2, hk_.1.1.2, hk_.1.2, hk_.1.1.1.1.1⟩)); have n9_ := Aside0.mk (Kd.S_mono (ok' := fun k_ => some k_ ≠ (v402 : Value).ownBlock ∧ some k_ ≠ (.slice Ao41 t412.length co41 : Value).ownBlock ∧ some k_ ≠ (v416 : Value).ownBlock ∧ some k_ ≠ (.slice Ao35 t405.length co35 : Value).ownBlock ∧ some k_ ≠ (.slice Ao38 t408.length co38 : Value).ownBlock ∧ some k_ ≠ (.slice Ao61 t420.length co61 : Value).ownBlock ∧ some k_ ≠ (.slice Ao62 t423.length co62 : Value).ownBlock) (Kd.S_keptB (HO429.out) hkp (fun k_ hk_ hs_ => Or.elim hs_ (fun e_ => (hk_.1.1.1.2) e_) (fun e_ => (hk_.1.1.2) e_))) (fun k_ hk_ => ⟨hk_.1.1.1.1.1.1.1.2, hk_.1.1.1.1.1.1.2, hk_.1.1.1.1.1.2, hk_.1.1.1.1.2, hk_.1.1.1.2, hk_.1.1.2, hk_.1.2⟩)); have n10_ := Aside0.mk (hb); clear HO_10; clear HO_13; clear HO_14; clear HO_412000; clear HO_412001; clear BK389; clear BK411; clear HO422; clear HO425; clear HO429; clear HB; have HO_10 := n0_; have HO_13 := n1_; have HO_14 := n2_; have HO_412000 := n3_; have HO_412001 := n4_; have BK389 := n5_; have BK411 := n6_; have HO422 := n7_; have HO425 := n8_; have HO429 := n9_; have HB := n10_; clear n0_ n1_ n2_ n3_ n4_ n5_ n6_ n7_ n8_ n9_ n10_; (try clear hb); (try clear hkp); (try clear hy0); (try clear hy1)) | ((with_reducible refine gate_callee (f := 26) rfl ?_); refine goesL_ (some 77) rfl rfl Try.func26 (by kernel_rfl) rfl #[.slice Ao41 t412.length co41, .int .i64 t431] rfl (by (try simp only [List.map_toArray, List.map_cons, List.map_nil]); first | done | rfl | (simp only [List.length_drop, List.length_take]; rfl)) ?_; have hS_ := Kd.S_bound HO_13.out; refine (laws_markIntSS.calls kj20 _ _ t412 t431 t434 w _ (by repeat (first | (with_reducible first | exact HB.out | apply below_alloc | apply pw_below_drewN | apply below_drew1 | refine below_set ?_ GE389.out | refine below_set ?_ GE411.out) | exact HB.out)) (by (with_reducible repeat apply Kd.S_alloc); exact hS_) A57.out).mono ?_; rintro e w69 ⟨rfl, hb, hkp⟩; refine ⟨_, rfl, ?_⟩; have n0_ := Aside0.mk (Kd.R_reok rfl (Kd.R_keptB (Kd.R_tight rfl (by (with_reducible repeat apply Kd.R_alloc); exact HO_10.out)) hkp (fun k_ hk_ hs_ => (by have h_ := hs_.1; first | exact h_.1 hk_ | exact h_.2.1 hk_ | exact h_.2.2.1 hk_ | exact h_.2.2.2.1 hk_ | exact h_.2.2.2.2.1 hk_ | exact h_.2.2.2.2.2.1 hk_ | exact h_.2.2.2.2.2.2.1 hk_ | exact h_.2.2.2.2.2.2.2.1 hk_ | exact h_.2 hk_ | exact h_.2.2 hk_ | exact h_.2.2.2 hk_ | exact h_.2.2.2.2 hk_ | exact h_.2.2.2.2.2 hk_ | exact h_.2.2.2.2.2.2 hk_ | exact h_.2.2.2.2.2.2.2 hk_ | exact h_ hk_))) (fun k_ e_ => HO_10.out.1 k_ e_)); have n1_ := Aside0.mk True.intro; have n2_ := Aside0.mk (Kd.R_reok rfl (Kd.R_keptB (Kd.R_tight rfl (by (with_reducible repeat apply Kd.R_alloc); exact HO_14.out)) hkp (fun k_ hk_ hs_ => (by have h_ := hs_.1; first | exact h_.1 hk_ | exact h_.2.1 hk_ | exact h_.2.2.1 hk_ | exact h_.2.2.2.1 hk_ | exact h_.2.2.2.2.1 hk_ | exact h_.2.2.2.2.2.1 hk_ | exact h_.2.2.2.2.2.2.1 hk_ | exact h_.2.2.2.2.2.2.2.1 hk_ | exact h_.2 hk_ | exact h_.2.2 hk_ | exact h_.2.2.2 hk_ | exact h_.2.2.2.2 hk_ | exact h_.2.2.2.2.2 hk_ | exact h_.2.2.2.2.2.2 hk_ | exact h_.2.2.2.2.2.2.2 hk_ | exact h_ hk_))) (fun k_ e_ => HO_14.out.1 k_ e_)); have n3_ := Aside0.mk (Kd.R_reok rfl (Kd.R_keptB (Kd.R_tight rfl (by (with_reducible repeat apply Kd.R_alloc); exact HO_412000.out)) hkp (fun k_ hk_ hs_ => (by have h_ := hs_.1; first | exact h_.1 hk_ | exact h_.2.1 hk_ | exact h_.2.2.1 hk_ | exact h_.2.2.2.1 hk_ | exact h_.2.2.2.2.1 hk_ | exact h_.2.2.2.2.2.1 hk_ | exact h_.2.2.2.2.2.2.1 hk_ | exact h_.2.2.2.2.2.2.2.1 hk_ | exact h_.2 hk_ | exact h_.2.2 hk_ | exact h_.2.2.2 hk_ | exact h_.2.2.2.2 hk_ | exact h_.2.2.2.2.2 hk_ | exact h_.2.2.2.2.2.2 hk_ | exact h_.2.2.2.2.2.2.2 hk_ | exact h_ hk_))) (fun k_ e_ => HO_412000.out.1 k_ e_)); have n4_ := Aside0.mk (Kd.R_reok rfl (Kd.R_keptB (Kd.R_tight rfl (by (with_reducible repeat apply Kd.R_alloc); exact HO_412001.out)) hkp (fun k_ hk_ hs_ => (by have h_ := hs_.1; first | exact h_.1 hk_ | exact h_.2.1 hk_ | exact h_.2.2.1 hk_ | exact h_.2.2.2.1 hk_ | exact h_.2.2.2.2.1 hk_ | exact h_.2.2.2.2.2.1 hk_ | exact h_.2.2.2.2.2.2.1 hk_ | exact h_.2.2.2.2.2.2.2.1 hk_ | exact h_.2 hk_ | exact h_.2.2 hk_ | exact h_.2.2.2 hk_ | exact h_.2.2.2.2 hk_ | exact h_.2.2.2.2.2 hk_ | exact h_.2.2.2.2.2.2 hk_ | exact h_.2.2.2.2.2.2.2 hk_ | exact h_ hk_))) (fun k_ e_ => HO_412001.out.1 k_ e_)); have n5_ := Aside0.mk (Kd.R_reok rfl (Kd.R_keptB (Kd.R_tight rfl (by (with_reducible repeat apply Kd.R_alloc); exact HO422.out)) hkp (fun k_ hk_ hs_ => (by have h_ := hs_.1; first | exact h_.1 hk_ | exact h_.2.1 hk_ | exact h_.2.2.1 hk_ | exact h_.2.2.2.1 hk_ | exact h_.2.2.2.2.1 hk_ | exact h_.2.2.2.2.2.1 hk_ | exact h_.2.2.2.2.2.2.1 hk_ | exact h_.2.2.2.2.2.2.2.1 hk_ | exact h_.2 hk_ | exact h_.2.2 hk_ | exact h_.2.2.2 hk_ | exact h_.2.2.2.2 hk_ | exact h_.2.2.2.2.2 hk_ | exact h_.2.2.2.2.2.2 hk_ | exact h_.2.2.2.2.2.2.2 hk_ | exact h_ hk_))) (fun k_ e_ => HO422.out.1 k_ e_)); have n6_ := Aside0.mk (Kd.R_reok rfl (Kd.R_keptB (Kd.R_tight rfl (by (with_reducible repeat apply Kd.R_alloc); exact HO425.out)) hkp (fun k_ hk_ hs_ => (by have h_ := hs_.1; first | exact h_.1 hk_ | exact h_.2.1 hk_ | exact h_.2.2.1 hk_ | exact h_.2.2.2.1 hk_ | exact h_.2.2.2.2.1 hk_ | exact h_.2.2.2.2.2.1 hk_ | exact h_.2.2.2.2.2.2.1 hk_ | exact h_.2.2.2.2.2.2.2.1 hk_ | exact h_.2 hk_ | exact h_.2.2 hk_ | exact h_.2.2.2 hk_ | exact h_.2.2.2.2 hk_ | exact h_.2.2.2.2.2 hk_ | exact h_.2.2.2.2.2.2 hk_ | exact h_.2.2.2.2.2.2.2 hk_ | exact h_ hk_))) (fun k_ e_ => HO425.out.1 k_ e_)); have n7_ := Aside0.mk True.intro; have n8_ := Aside0.mk (blk_kept (by (with_reducible repeat refine blk_alloc ?_ _); exact BK389.out) hkp (fun hs_ => by obtain ⟨_, _, _, q_, hq_, cs_, hc_⟩ := hs_; have e_ := BK389.out.symm.trans hc_; injection e_ with e_; injection e_ with _ e2_ _; subst e2_; exact absurd hq_ (by decide))); have n9_ := Aside0.mk (blk_kept (by (with_reducible repeat refine blk_alloc ?_ _); exact BK411.out) hkp (fun hs_ => by obtain ⟨_, _, _, q_, hq_, cs_, hc_⟩ := hs_; have e_ := BK411.out.symm.trans hc_; injection e_ with e_; injection e_ with _ e2_ _; subst e2_; exact absurd hq_ (by decide))); have n10_ := Aside0.mk (hb); clear HO_10; clear HO_13; clear HO_14; clear HO_412000; clear HO_412001; clear HO422; clear HO425; clear HO429; clear BK389; clear BK411; clear HB; have HO_10 := n0_; have HO_13 := n1_; have HO_14 := n2_; have HO_412000 := n3_; have HO_412001 := n4_; have HO422 := n5_; have HO425 := n6_; have HO429 := n7_; have BK389 := n8_; have BK411 := n9_; have HB := n10_; clear n0_ n1_ n2_ n3_ n4_ n5_ n6_ n7_ n8_ n9_ n10_; (try clear hb); (try clear hb2); (try clear hk); (try clear hi); (try clear hkp); (try clear hS_)))
        (try simp only [Act.put, List.setIfInBounds_toArray, List.set_cons_zero, List.set_cons_succ])
        go_cut [90] (fun v90 wc => ∃ (kq : Nat) (x90_57 : Bool), v90 = .bool x90_57 ∧ Aside0 (laws_FnExactCoverWinding.j1 kq a1 l2 a3 t401 t404 t415 x90_57 l0_0 l0_1 = some r) ∧ Aside0 (kq ≤ kj20) ∧ Aside0 (Kd.R (Kd.int .i64) 3 wc w.heap.size (fun k_ => some k_ ≠ (v416 : Value).ownBlock ∧ some k_ ≠ ((.slice Ao35 t405.length co35) : Value).ownBlock ∧ some k_ ≠ ((.slice Ao38 t408.length co38) : Value).ownBlock) v402 t401) ∧ Aside0 (Kd.R (Kd.int .i64) 3 wc w.heap.size (fun k_ => some k_ ≠ (v402 : Value).ownBlock ∧ some k_ ≠ ((.slice Ao35 t405.length co35) : Value).ownBlock ∧ some k_ ≠ ((.slice Ao38 t408.length co38) : Value).ownBlock) v416 t415) ∧ Aside0 (Kd.R (Kd.int .i64) 3 wc w.heap.size (fun k_ => some k_ ≠ (v402 : Value).ownBlock ∧ some k_ ≠ (v416 : Value).ownBlock ∧ some k_ ≠ ((.slice Ao38 t408.length co38) : Value).ownBlock) (.slice Ao35 t405.length co35) t432) ∧ Aside0 (Kd.R (Kd.int .i64) 3 wc w.heap.size (fun k_ => some k_ ≠ (v402 : Value).ownBlock ∧ some k_ ≠ (v416 : Value).ownBlock ∧ some k_ ≠ ((.slice Ao35 t405.length co35) : Value).ownBlock) (.slice Ao38 t408.length co38) t433) ∧ Aside0 (wc.heap[gb389]? = some (.cells #[(.slice A0_0 l0_0.length c0_0), (.slice A0_1 l0_1.length c0_1)] 24 (0, 0))) ∧ Aside0 (wc.heap[gb411]? = some (.cells #[(.slice Ao35 t405.length co35), (.slice Ao38 t408.length co38)] 29 (0, 0))) ∧ Aside0 (Below w.heap.size w wc))
        case first =>
         have H := HC58.out
         clear HC58
         by_cases c70 : t434 < 0
         ·rw [if_pos c70] at H
          have c70b0 : decide (t434 < 0) = true := decide_eq_true c70
          clear c70
          (first | rw [c70b0] | (simp only [i64_w, i32_w]; rw [c70b0]) | skip)
          have H' := Aside0.mk H
          clear H
          go_wp2
          go_meet
          case rel => exact ⟨_, (true), (by first | rfl | (simp; done) | (simp [*]; done)), H', ⟨by have := HJ20.out; first | omega | exact Nat.le_refl _⟩, ⟨by (with_reducible repeat (first | apply Kd.R_alloc | apply Kd.R_drewN | apply Kd.R_drew)); exact Kd.R_mono HO_10.out (fun _ hk => ⟨hk.1, ⟨hk.2.1, hk.2.2.1⟩⟩)⟩, ⟨by (with_reducible repeat (first | apply Kd.R_alloc | apply Kd.R_drewN | apply Kd.R_drew)); exact Kd.R_mono HO_14.out (fun _ hk => ⟨hk.1, ⟨hk.2.1, hk.2.2.1⟩⟩)⟩, ⟨by (with_reducible repeat (first | apply Kd.R_alloc | apply Kd.R_drewN | apply Kd.R_drew)); exact Kd.R_mono HO_412000.out (fun _ hk => ⟨hk.1.1.1, ⟨hk.1.1.2.1, hk.1.1.2.2⟩⟩)⟩, ⟨by (with_reducible repeat (first | apply Kd.R_alloc | apply Kd.R_drewN | apply Kd.R_drew)); exact Kd.R_mono HO_412001.out (fun _ hk => ⟨hk.1.1.1, ⟨hk.1.1.2.1, hk.1.1.2.2⟩⟩)⟩, ⟨by (with_reducible repeat (first | refine blk_drewN ?_ _ | refine blk_drew ?_ | refine blk_alloc ?_ _)); exact BK389.out⟩, ⟨by (with_reducible repeat (first | refine blk_drewN ?_ _ | refine blk_drew ?_ | refine blk_alloc ?_ _)); exact BK411.out⟩, ⟨by repeat (first | (with_reducible first | exact HB.out | apply below_alloc | apply pw_below_drewN | apply below_drew1 | refine below_set ?_ GE389.out | refine below_set ?_ GE411.out) | exact HB.out)⟩⟩
         ·rw [if_neg c70] at H
          have c70b0 : decide (t434 < 0) = false := decide_eq_false c70
          clear c70
          (first | rw [c70b0] | (simp only [i64_w, i32_w]; rw [c70b0]) | skip)
          replace H := Option.bind_eq_some_iff.mp H
          obtain ⟨t435, A710, H⟩ := H
          replace H : (if t435 = true then (laws_FnExactCoverWinding.j1 kj20 a1 l2 a3 t401 t404 t415 (t418 != t404) l0_0 l0_1) else (laws_FnExactCoverWinding.j1 kj20 a1 l2 a3 t401 t404 t415 true l0_0 l0_1)) = some r := H
          have A71 := Aside0.mk A710
          clear A710
          by_cases c72 : t435 = true
          ·subst c72
           have H1 : (laws_FnExactCoverWinding.j1 kj20 a1 l2 a3 t401 t404 t415 (t418 != t404) l0_0 l0_1) = some r := by rw [if_pos rfl] at H; exact H
           clear H
           have H := H1
           clear H1
           have H' := Aside0.mk H
           clear H
           obtain ⟨Ao73, co73, eo73⟩ := Kd.R_slice HO_14.out
           subst eo73
           obtain ⟨Ao74, co74, eo74⟩ := Kd.R_slice HO_10.out
           subst eo74
           go_wp2_with (first | (go_at_call 31; (with_reducible refine (laws_eqIntS.calls kj20 _ _ t415 _ _ t401 true _ ?side1 ?side2 ?side3 ?side4 A71.out).mono ?_); (case side1 => repeat (first | exact (Kd.R_reads' HO_14.out).2.2 | (with_reducible refine Kd.C_alloc ?_ _))); (case side2 => exact (Kd.R_reads' HO_14.out).2.1); (case side3 => repeat (first | exact (Kd.R_reads' HO_10.out).2.2 | (with_reducible refine Kd.C_alloc ?_ _))); (case side4 => exact (Kd.R_reads' HO_10.out).2.1); rintro e w' ⟨rfl, ⟨nd, rfl⟩⟩))
           go_meet
           case rel => exact ⟨_, ((t418 != t404)), (by first | rfl | (simp; done) | (simp [*]; done)), H', ⟨by have := HJ20.out; first | omega | exact Nat.le_refl _⟩, ⟨by (with_reducible repeat (first | apply Kd.R_alloc | apply Kd.R_drewN | apply Kd.R_drew)); exact Kd.R_mono HO_10.out (fun _ hk => ⟨hk.1, ⟨hk.2.1, hk.2.2.1⟩⟩)⟩, ⟨by (with_reducible repeat (first | apply Kd.R_alloc | apply Kd.R_drewN | apply Kd.R_drew)); exact Kd.R_mono HO_14.out (fun _ hk => ⟨hk.1, ⟨hk.2.1, hk.2.2.1⟩⟩)⟩, ⟨by (with_reducible repeat (first | apply Kd.R_alloc | apply Kd.R_drewN | apply Kd.R_drew)); exact Kd.R_mono HO_412000.out (fun _ hk => ⟨hk.1.1.1, ⟨hk.1.1.2.1, hk.1.1.2.2⟩⟩)⟩, ⟨by (with_reducible repeat (first | apply Kd.R_alloc | apply Kd.R_drewN | apply Kd.R_drew)); exact Kd.R_mono HO_412001.out (fun _ hk => ⟨hk.1.1.1, ⟨hk.1.1.2.1, hk.1.1.2.2⟩⟩)⟩, ⟨by (with_reducible repeat (first | refine blk_drewN ?_ _ | refine blk_drew ?_ | refine blk_alloc ?_ _)); exact BK389.out⟩, ⟨by (with_reducible repeat (first | refine blk_drewN ?_ _ | refine blk_drew ?_ | refine blk_alloc ?_ _)); exact BK411.out⟩, ⟨by repeat (first | (with_reducible first | exact HB.out | apply below_alloc | apply pw_below_drewN | apply below_drew1 | refine below_set ?_ GE389.out | refine below_set ?_ GE411.out) | exact HB.out)⟩⟩
          ·replace c72 := Bool.eq_false_iff.mpr c72
           subst c72
           have H1 : (laws_FnExactCoverWinding.j1 kj20 a1 l2 a3 t401 t404 t415 true l0_0 l0_1) = some r := by rw [if_neg (show ¬ (false = true) by decide)] at H; exact H
           clear H
           have H := H1
           clear H1
           have H' := Aside0.mk H
           clear H
           obtain ⟨Ao75, co75, eo75⟩ := Kd.R_slice HO_14.out
           subst eo75
           obtain ⟨Ao76, co76, eo76⟩ := Kd.R_slice HO_10.out
           subst eo76
           go_wp2_with (first | (go_at_call 31; (with_reducible refine (laws_eqIntS.calls kj20 _ _ t415 _ _ t401 false _ ?side1 ?side2 ?side3 ?side4 A71.out).mono ?_); (case side1 => repeat (first | exact (Kd.R_reads' HO_14.out).2.2 | (with_reducible refine Kd.C_alloc ?_ _))); (case side2 => exact (Kd.R_reads' HO_14.out).2.1); (case side3 => repeat (first | exact (Kd.R_reads' HO_10.out).2.2 | (with_reducible refine Kd.C_alloc ?_ _))); (case side4 => exact (Kd.R_reads' HO_10.out).2.1); rintro e w' ⟨rfl, ⟨nd, rfl⟩⟩))
           go_meet
           case rel => exact ⟨_, (true), (by first | rfl | (simp; done) | (simp [*]; done)), H', ⟨by have := HJ20.out; first | omega | exact Nat.le_refl _⟩, ⟨by (with_reducible repeat (first | apply Kd.R_alloc | apply Kd.R_drewN | apply Kd.R_drew)); exact Kd.R_mono HO_10.out (fun _ hk => ⟨hk.1, ⟨hk.2.1, hk.2.2.1⟩⟩)⟩, ⟨by (with_reducible repeat (first | apply Kd.R_alloc | apply Kd.R_drewN | apply Kd.R_drew)); exact Kd.R_mono HO_14.out (fun _ hk => ⟨hk.1, ⟨hk.2.1, hk.2.2.1⟩⟩)⟩, ⟨by (with_reducible repeat (first | apply Kd.R_alloc | apply Kd.R_drewN | apply Kd.R_drew)); exact Kd.R_mono HO_412000.out (fun _ hk => ⟨hk.1.1.1, ⟨hk.1.1.2.1, hk.1.1.2.2⟩⟩)⟩, ⟨by (with_reducible repeat (first | apply Kd.R_alloc | apply Kd.R_drewN | apply Kd.R_drew)); exact Kd.R_mono HO_412001.out (fun _ hk => ⟨hk.1.1.1, ⟨hk.1.1.2.1, hk.1.1.2.2⟩⟩)⟩, ⟨by (with_reducible repeat (first | refine blk_drewN ?_ _ | refine blk_drew ?_ | refine blk_alloc ?_ _)); exact BK389.out⟩, ⟨by (with_reducible repeat (first | refine blk_drewN ?_ _ | refine blk_drew ?_ | refine blk_alloc ?_ _)); exact BK411.out⟩, ⟨by repeat (first | (with_reducible first | exact HB.out | apply below_alloc | apply pw_below_drewN | apply below_drew1 | refine below_set ?_ GE389.out | refine below_set ?_ GE411.out) | exact HB.out)⟩⟩
        case rest =>
         clear HC58
         try clear c1
         try clear c2
         try clear p2
         try clear c3
         try clear c4
         try clear c5
         try clear c6
         try clear c6b0
         try clear c7
         try clear c10
         try clear c11
         try clear c11b0
         try clear c15
         try clear c16
         try clear c18
         try clear c19
         try clear c21
         try clear c22
         try clear c25
         try clear c26
         try clear c31
         try clear c36
         try clear c43
         try clear c44
         try clear c49
         try clear c52
         try clear c55
         try clear c66
         try clear c70
         try clear c70b0
         try clear c72
         try clear hcz13_0
         try clear hcz13_1
         try clear hcz23_0
         try clear hcz23_1
         try clear hcz25_0
         try clear hcz25_1
         try clear hcz32_0
         try clear hcz32_1
         try clear hcz37_0
         try clear hcz37_1
         try clear hcz40_0
         try clear hcz40_1
         try clear hcz67_0
         try clear hcz67_1
         try clear hcz8_0
         try clear hcz8_1
         try clear hfz13_0
         try clear hfz13_1
         try clear hfz23_0
         try clear hfz23_1
         try clear hfz25_0
         try clear hfz25_1
         try clear hfz32_0
         try clear hfz32_1
         try clear hfz37_0
         try clear hfz37_1
         try clear hfz40_0
         try clear hfz40_1
         try clear hfz67_0
         try clear hfz67_1
         try clear hfz8_0
         try clear hfz8_1
         try clear p2
         obtain ⟨kq, x90_57, rfl, HA, HJ57, HO_10, HO_14, HO_412000, HO_412001, BK389, BK411, HB⟩ := hcut
         have hl412000_57 := (Kd.R_reads' HO_412000.out).1
         rw [hl412000_57] at HO_412000
         (try simp only [hl412000_57])
         (try simp only [hl412000_57] at BK389)
         (try simp only [hl412000_57] at BK411)
         (try simp only [hl412000_57] at HO_10)
         (try simp only [hl412000_57] at HO_14)
         (try simp only [hl412000_57] at HO_412001)
         have hl412001_57 := (Kd.R_reads' HO_412001.out).1
         rw [hl412001_57] at HO_412001
         (try simp only [hl412001_57])
         (try simp only [hl412001_57] at BK389)
         (try simp only [hl412001_57] at BK411)
         (try simp only [hl412001_57] at HO_10)
         (try simp only [hl412001_57] at HO_14)
         (try simp only [hl412001_57] at HO_412000)
         cases kq with
         | zero => exact absurd HA.out (by simp [laws_FnExactCoverWinding.j1])
         | succ kj57 =>
          have H := HA.out
          clear HA
          simp only [laws_FnExactCoverWinding.j1] at H
          by_cases c77 : x90_57 = true
          ·subst c77
           have H1 : (some false) = some r := by rw [if_pos rfl] at H; exact H
           clear H
           have H := H1
           clear H1
           obtain rfl := Option.some.inj H
           go_wp2
           go_ret
           exact ⟨by first | rfl | (simp [errW_none, errW_some] <;> rfl) | (simp [*, errW_none, errW_some] <;> rfl), by repeat (first | (with_reducible first | exact HB.out | apply below_alloc | apply pw_below_drewN | apply below_drew1 | refine below_set ?_ GE389.out | refine below_set ?_ GE411.out) | exact HB.out)⟩
          ·replace c77 := Bool.eq_false_iff.mpr c77
           subst c77
           have H1 : ((laws_markIntS.f kj57 t415 1).bind fun bt436 => ((laws_heldIntS.f kj57 bt436.2 1).bind fun t438 => (if t438 < 0 then (some false) else (if t438 = bt436.1 then ((laws_toMap.f kj57 l0_0 l0_1).bind fun bt439 => ((laws_toIntSS.f kj57 l2).bind fun t445 => ((impl_CoverWinding.f kj57 bt439.1 bt439.2 a1 t445 a3).bind fun bt448 => ((laws_eqIntS.f kj57 bt448.1 t401).bind fun t452 => (if t452 = true then (laws_FnExactCoverWinding.j2 kj57 bt436.2 bt436.1 (bt448.2 != t404)) else (laws_FnExactCoverWinding.j2 kj57 bt436.2 bt436.1 true)))))) else (some false))))) = some r := by rw [if_neg (show ¬ (false = true) by decide)] at H; exact H
           clear H
           have H := H1
           clear H1
           replace H := Option.bind_eq_some_iff.mp H
           obtain ⟨⟨t436, t437⟩, A780, H⟩ := H
           replace H : ((laws_heldIntS.f kj57 t437 1).bind fun t438 => (if t438 < 0 then (some false) else (if t438 = t436 then ((laws_toMap.f kj57 l0_0 l0_1).bind fun bt439 => ((laws_toIntSS.f kj57 l2).bind fun t445 => ((impl_CoverWinding.f kj57 bt439.1 bt439.2 a1 t445 a3).bind fun bt448 => ((laws_eqIntS.f kj57 bt448.1 t401).bind fun t452 => (if t452 = true then (laws_FnExactCoverWinding.j2 kj57 t437 t436 (bt448.2 != t404)) else (laws_FnExactCoverWinding.j2 kj57 t437 t436 true)))))) else (some false)))) = some r := H
           have A78 := Aside0.mk A780
           clear A780
           replace H := Option.bind_eq_some_iff.mp H
           obtain ⟨t438, A790, H⟩ := H
           replace H : (if t438 < 0 then (some false) else (if t438 = t436 then ((laws_toMap.f kj57 l0_0 l0_1).bind fun bt439 => ((laws_toIntSS.f kj57 l2).bind fun t445 => ((impl_CoverWinding.f kj57 bt439.1 bt439.2 a1 t445 a3).bind fun bt448 => ((laws_eqIntS.f kj57 bt448.1 t401).bind fun t452 => (if t452 = true then (laws_FnExactCoverWinding.j2 kj57 t437 t436 (bt448.2 != t404)) else (laws_FnExactCoverWinding.j2 kj57 t437 t436 true)))))) else (some false))) = some r := H
           have A79 := Aside0.mk A790
           clear A790
           by_cases c80 : t438 < 0
           ·rw [if_pos c80] at H
            have c80b0 : decide (t438 < 0) = true := decide_eq_true c80
            clear c80
            obtain rfl := Option.some.inj H
            obtain ⟨Ao81, co81, eo81⟩ := Kd.R_slice HO_14.out
            subst eo81
            go_wp2_with (first | ((with_reducible refine gate_callee (f := 32) rfl ?_); refine goesL_ (some 93) rfl rfl Try.func32 (by kernel_rfl) rfl #[.slice Ao81 t415.length co81, .int .i64 1] rfl (by (try simp only [List.map_toArray, List.map_cons, List.map_nil]); first | done | rfl | (simp only [List.length_drop, List.length_take]; rfl)) ?_; (with_reducible refine (laws_markIntS.calls kj57 (fun k_ => some k_ = (.slice Ao81 t415.length co81 : Value).ownBlock) (.slice Ao81 t415.length co81) t415 1 t436 t437 w _ ?side1 ?side2 A78.out).mono ?_); (case side1 => repeat (first | (with_reducible first | exact HB.out | apply below_alloc | apply pw_below_drewN | apply below_drew1 | refine below_set ?_ GE389.out | refine below_set ?_ GE411.out) | exact HB.out)); (case side2 => exact Kd.R_tight rfl HO_14.out); rintro e w82 ⟨rfl, hy0, hb, hkp⟩; refine ⟨_, rfl, ?_⟩; have n0_ := Aside0.mk (Kd.R_mono (ok' := fun k_ => some k_ ≠ (.slice Ao81 t415.length co81 : Value).ownBlock ∧ some k_ ≠ (.slice Ao35 t432.length co35 : Value).ownBlock ∧ some k_ ≠ (.slice Ao38 t433.length co38 : Value).ownBlock) (Kd.R_keptB (HO_10.out) hkp (fun k_ hk_ hs_ => (hk_.1) hs_)) (fun k_ hk_ => ⟨hk_.1.1, hk_.1.2.1, hk_.1.2.2⟩)); have n1_ := Aside0.mk (Kd.R_reok rfl hy0 (fun k_ e_ => HO_14.out.1 k_ e_)); have n2_ := Aside0.mk (Kd.R_mono (ok' := fun k_ => some k_ ≠ (v402 : Value).ownBlock ∧ some k_ ≠ (.slice Ao81 t415.length co81 : Value).ownBlock ∧ some k_ ≠ (.slice Ao38 t433.length co38 : Value).ownBlock) (Kd.R_keptB (HO_412000.out) hkp (fun k_ hk_ hs_ => (hk_.2.1) hs_)) (fun k_ hk_ => ⟨hk_.1.1, hk_.1.2.1, hk_.1.2.2⟩)); have n3_ := Aside0.mk (Kd.R_mono (ok' := fun k_ => some k_ ≠ (v402 : Value).ownBlock ∧ some k_ ≠ (.slice Ao81 t415.length co81 : Value).ownBlock ∧ some k_ ≠ (.slice Ao35 t432.length co35 : Value).ownBlock) (Kd.R_keptB (HO_412001.out) hkp (fun k_ hk_ hs_ => (hk_.2.1) hs_)) (fun k_ hk_ => ⟨hk_.1.1, hk_.1.2.1, hk_.1.2.2⟩)); have n4_ := Aside0.mk (blk_kept (by (with_reducible repeat refine blk_alloc ?_ _); exact BK389.out) hkp (fun hs_ => (fun e_ => (Kd.R_ne HO_14.out BK389.out (by decide)) e_) hs_)); have n5_ := Aside0.mk (blk_kept (by (with_reducible repeat refine blk_alloc ?_ _); exact BK411.out) hkp (fun hs_ => (fun e_ => (Kd.R_ne HO_14.out BK411.out (by decide)) e_) hs_)); have n6_ := Aside0.mk (hb); clear HO_10; clear HO_14; clear HO_412000; clear HO_412001; clear BK389; clear BK411; clear HB; have HO_10 := n0_; have HO_14 := n1_; have HO_412000 := n2_; have HO_412001 := n3_; have BK389 := n4_; have BK411 := n5_; have HB := n6_; clear n0_ n1_ n2_ n3_ n4_ n5_ n6_; (try clear hb); (try clear hkp); (try clear hy0)) | ((with_reducible refine gate_callee (f := 33) rfl ?_); refine goesL_ (some 96) rfl rfl Try.func33 (by kernel_rfl) rfl #[.slice Ao81 t437.length co81, .int .i64 1] rfl (by (try simp only [List.map_toArray, List.map_cons, List.map_nil]); first | done | (rw [show t437.length = t415.length from (Kd.R_reads' HO_14.out).1.symm] <;> rfl) | rfl | (simp only [List.length_drop, List.length_take]; rfl)) ?_; (with_reducible refine (laws_heldIntS.calls kj57 _ _ t437 1 t438 _ ?side1 ?side2 A79.out).mono ?_); (case side1 => repeat (first | exact (Kd.R_reads' HO_14.out).2.2 | (with_reducible refine Kd.C_alloc ?_ _))); (case side2 => rw [show t437.length = t415.length from (Kd.R_reads' HO_14.out).1.symm]; exact (Kd.R_reads' HO_14.out).2.1); rintro e w' ⟨rfl, ⟨nd, rfl⟩⟩; refine ⟨_, rfl, ?_⟩))
            go_ret
            exact ⟨by first | rfl | (simp [errW_none, errW_some] <;> rfl) | (simp [*, errW_none, errW_some] <;> rfl), by repeat (first | (with_reducible first | exact HB.out | apply below_alloc | apply pw_below_drewN | apply below_drew1 | refine below_set ?_ GE389.out | refine below_set ?_ GE411.out) | exact HB.out)⟩
           ·rw [if_neg c80] at H
            have c80b0 : decide (t438 < 0) = false := decide_eq_false c80
            clear c80
            by_cases c83 : t438 = t436
            ·rw [if_pos c83] at H
             have c83b0 : (t438 == t436) = true := beq_iff_eq.mpr c83
             have c83b1 : (t438 != t436) = false := bne_eq_false_iff_eq.mpr c83
             clear c83
             replace H := Option.bind_eq_some_iff.mp H
             obtain ⟨⟨t439, t442⟩, A840, H⟩ := H
             replace H : ((laws_toIntSS.f kj57 l2).bind fun t445 => ((impl_CoverWinding.f kj57 t439 t442 a1 t445 a3).bind fun bt448 => ((laws_eqIntS.f kj57 bt448.1 t401).bind fun t452 => (if t452 = true then (laws_FnExactCoverWinding.j2 kj57 t437 t436 (bt448.2 != t404)) else (laws_FnExactCoverWinding.j2 kj57 t437 t436 true))))) = some r := H
             have A84 := Aside0.mk A840
             clear A840
             replace H := Option.bind_eq_some_iff.mp H
             obtain ⟨t445, A850, H⟩ := H
             replace H : ((impl_CoverWinding.f kj57 t439 t442 a1 t445 a3).bind fun bt448 => ((laws_eqIntS.f kj57 bt448.1 t401).bind fun t452 => (if t452 = true then (laws_FnExactCoverWinding.j2 kj57 t437 t436 (bt448.2 != t404)) else (laws_FnExactCoverWinding.j2 kj57 t437 t436 true)))) = some r := H
             have A85 := Aside0.mk A850
             clear A850
             replace H := Option.bind_eq_some_iff.mp H
             obtain ⟨⟨t448, t451⟩, A860, H⟩ := H
             replace H : ((laws_eqIntS.f kj57 t448 t401).bind fun t452 => (if t452 = true then (laws_FnExactCoverWinding.j2 kj57 t437 t436 (t451 != t404)) else (laws_FnExactCoverWinding.j2 kj57 t437 t436 true))) = some r := H
             have A86 := Aside0.mk A860
             clear A860
             have HC87 := Aside0.mk H
             clear H
             obtain ⟨Ao88, co88, eo88⟩ := Kd.R_slice HO_14.out
             subst eo88
             go_upto_region 32 with (first | ((with_reducible refine gate_callee (f := 32) rfl ?_); refine goesL_ (some 93) rfl rfl Try.func32 (by kernel_rfl) rfl #[.slice Ao88 t415.length co88, .int .i64 1] rfl (by (try simp only [List.map_toArray, List.map_cons, List.map_nil]); first | done | rfl | (simp only [List.length_drop, List.length_take]; rfl)) ?_; (with_reducible refine (laws_markIntS.calls kj57 (fun k_ => some k_ = (.slice Ao88 t415.length co88 : Value).ownBlock) (.slice Ao88 t415.length co88) t415 1 t436 t437 w _ ?side1 ?side2 A78.out).mono ?_); (case side1 => repeat (first | (with_reducible first | exact HB.out | apply below_alloc | apply pw_below_drewN | apply below_drew1 | refine below_set ?_ GE389.out | refine below_set ?_ GE411.out) | exact HB.out)); (case side2 => exact Kd.R_tight rfl HO_14.out); rintro e w89 ⟨rfl, hy0, hb, hkp⟩; refine ⟨_, rfl, ?_⟩; have n0_ := Aside0.mk (Kd.R_mono (ok' := fun k_ => some k_ ≠ (.slice Ao88 t415.length co88 : Value).ownBlock ∧ some k_ ≠ (.slice Ao35 t432.length co35 : Value).ownBlock ∧ some k_ ≠ (.slice Ao38 t433.length co38 : Value).ownBlock) (Kd.R_keptB (HO_10.out) hkp (fun k_ hk_ hs_ => (hk_.1) hs_)) (fun k_ hk_ => ⟨hk_.1.1, hk_.1.2.1, hk_.1.2.2⟩)); have n1_ := Aside0.mk (Kd.R_reok rfl hy0 (fun k_ e_ => HO_14.out.1 k_ e_)); have n2_ := Aside0.mk (Kd.R_mono (ok' := fun k_ => some k_ ≠ (v402 : Value).ownBlock ∧ some k_ ≠ (.slice Ao88 t415.length co88 : Value).ownBlock ∧ some k_ ≠ (.slice Ao38 t433.length co38 : Value).ownBlock) (Kd.R_keptB (HO_412000.out) hkp (fun k_ hk_ hs_ => (hk_.2.1) hs_)) (fun k_ hk_ => ⟨hk_.1.1, hk_.1.2.1, hk_.1.2.2⟩)); have n3_ := Aside0.mk (Kd.R_mono (ok' := fun k_ => some k_ ≠ (v402 : Value).ownBlock ∧ some k_ ≠ (.slice Ao88 t415.length co88 : Value).ownBlock ∧ some k_ ≠ (.slice Ao35 t432.length co35 : Value).ownBlock) (Kd.R_keptB (HO_412001.out) hkp (fun k_ hk_ hs_ => (hk_.2.1) hs_)) (fun k_ hk_ => ⟨hk_.1.1, hk_.1.2.1, hk_.1.2.2⟩)); have n4_ := Aside0.mk (blk_kept (by (with_reducible repeat refine blk_alloc ?_ _); exact BK389.out) hkp (fun hs_ => (fun e_ => (Kd.R_ne HO_14.out BK389.out (by decide)) e_) hs_)); have n5_ := Aside0.mk (blk_kept (by (with_reducible repeat refine blk_alloc ?_ _); exact BK411.out) hkp (fun hs_ => (fun e_ => (Kd.R_ne HO_14.out BK411.out (by decide)) e_) hs_)); have n6_ := Aside0.mk (hb); clear HO_10; clear HO_14; clear HO_412000; clear HO_412001; clear BK389; clear BK411; clear HB; have HO_10 := n0_; have HO_14 := n1_; have HO_412000 := n2_; have HO_412001 := n3_; have BK389 := n4_; have BK411 := n5_; have HB := n6_; clear n0_ n1_ n2_ n3_ n4_ n5_ n6_; (try clear hb); (try clear hkp); (try clear hy0)) | ((with_reducible refine gate_callee (f := 33) rfl ?_); refine goesL_ (some 96) rfl rfl Try.func33 (by kernel_rfl) rfl #[.slice Ao88 t437.length co88, .int .i64 1] rfl (by (try simp only [List.map_toArray, List.map_cons, List.map_nil]); first | done | (rw [show t437.length = t415.length from (Kd.R_reads' HO_14.out).1.symm] <;> rfl) | rfl | (simp only [List.length_drop, List.length_take]; rfl)) ?_; (with_reducible refine (laws_heldIntS.calls kj57 _ _ t437 1 t438 _ ?side1 ?side2 A79.out).mono ?_); (case side1 => repeat (first | exact (Kd.R_reads' HO_14.out).2.2 | (with_reducible refine Kd.C_alloc ?_ _))); (case side2 => rw [show t437.length = t415.length from (Kd.R_reads' HO_14.out).1.symm]; exact (Kd.R_reads' HO_14.out).2.1); rintro e w' ⟨rfl, ⟨nd, rfl⟩⟩; refine ⟨_, rfl, ?_⟩; have hnb90 := NB389_411.out; have hnc90 := NB411_389.out; have hcz91_0 : w89.cell? ⟨gb389, 0, none⟩ = some (.slice A0_0 l0_0.length c0_0) := (blk_cell BK389.out 0).trans rfl; have hcz91_1 : w89.cell? ⟨gb389, 1, none⟩ = some (.slice A0_1 l0_1.length c0_1) := (blk_cell BK389.out 1).trans rfl; have hfz91_0 := blk_frozen BK389.out 0; have hfz91_1 := blk_frozen BK389.out 1) | ((with_reducible refine gate_callee (f := 18) rfl ?_); refine goesL_ (some 104) rfl rfl Try.func18 (by kernel_rfl) rfl #[.agg #[.slice A0_0 l0_0.length c0_0, .slice A0_1 l0_1.length c0_1]] rfl (by (try simp only [List.map_toArray, List.map_cons, List.map_nil]); first | done | rfl | (simp only [List.length_drop, List.length_take]; rfl)) ?_; (with_reducible refine (laws_toMap.calls kj57 _ _ l0_0 _ _ l0_1 t439 t442 _ ?side1 ?side2 ?side3 ?side4 A84.out).mono ?_); (case side1 => repeat (first | exact (Kd.C_below HR0_0.out (by repeat (first | (with_reducible first | exact HB.out | apply below_alloc | apply pw_below_drewN | apply below_drew1 | refine below_set ?_ GE389.out | refine below_set ?_ GE411.out) | exact HB.out))) | (with_reducible refine Kd.C_alloc ?_ _))); (case side2 => exact HC0_0.out); (case side3 => repeat (first | exact (Kd.C_below HR0_1.out (by repeat (first | (with_reducible first | exact HB.out | apply below_alloc | apply pw_below_drewN | apply below_drew1 | refine below_set ?_ GE389.out | refine below_set ?_ GE411.out) | exact HB.out))) | (with_reducible refine Kd.C_alloc ?_ _))); (case side4 => exact HC0_1.out); rintro e w92 ⟨v440, v443, rfl, ho0, ho1, hb⟩; refine ⟨_, rfl, ?_⟩; have n0_ := Aside0.mk (Kd.R_mono (Kd.R_told (Kd.R_told (Kd.R_old (by (with_reducible repeat apply Kd.R_alloc); exact HO_10.out) hb) (Kd.R_base ho0)) (Kd.R_base ho1)) (fun _ h_ => h_.1)); have n1_ := Aside0.mk (Kd.R_mono (Kd.R_told (Kd.R_told (Kd.R_old (by (with_reducible repeat apply Kd.R_alloc); exact HO_14.out) hb) (Kd.R_base ho0)) (Kd.R_base ho1)) (fun _ h_ => h_.1)); have n2_ := Aside0.mk (Kd.R_mono (Kd.R_told (Kd.R_told (Kd.R_old (by (with_reducible repeat apply Kd.R_alloc); exact HO_412000.out) hb) (Kd.R_base ho0)) (Kd.R_base ho1)) (fun _ h_ => h_.1)); have n3_ := Aside0.mk (Kd.R_mono (Kd.R_told (Kd.R_told (Kd.R_old (by (with_reducible repeat apply Kd.R_alloc); exact HO_412001.out) hb) (Kd.R_base ho0)) (Kd.R_base ho1)) (fun _ h_ => h_.1)); have n4_ := Aside0.mk (Kd.R_lower (Kd.R_new' (Kd.R_new' (Kd.R_new' (Kd.R_new' ho0 (Kd.R_lt (by (with_reducible repeat apply Kd.R_alloc); exact HO_10.out))) (Kd.R_lt (by (with_reducible repeat apply Kd.R_alloc); exact HO_14.out))) (Kd.R_lt (by (with_reducible repeat apply Kd.R_alloc); exact HO_412000.out))) (Kd.R_lt (by (with_reducible repeat apply Kd.R_alloc); exact HO_412001.out))) (below_size (by repeat (first | (with_reducible first | exact HB.out | apply below_alloc | apply pw_below_drewN | apply below_drew1 | refine below_set ?_ GE389.out | refine below_set ?_ GE411.out) | exact HB.out)))); have n5_ := Aside0.mk (Kd.R_lower (Kd.R_new' (Kd.R_new' (Kd.R_new' (Kd.R_new' ho1 (Kd.R_lt (by (with_reducible repeat apply Kd.R_alloc); exact HO_10.out))) (Kd.R_lt (by (with_reducible repeat apply Kd.R_alloc); exact HO_14.out))) (Kd.R_lt (by (with_reducible repeat apply Kd.R_alloc); exact HO_412000.out))) (Kd.R_lt (by (with_reducible repeat apply Kd.R_alloc); exact HO_412001.out))) (below_size (by repeat (first | (with_reducible first | exact HB.out | apply below_alloc | apply pw_below_drewN | apply below_drew1 | refine below_set ?_ GE389.out | refine below_set ?_ GE411.out) | exact HB.out)))); have n6_ := Aside0.mk (blk_below (g := gb389) (o := .cells #[.slice A0_0 l0_0.length c0_0, .slice A0_1 l0_1.length c0_1] 24 (0, 0)) (by (with_reducible repeat refine blk_alloc ?_ _); exact BK389.out) hb); have n7_ := Aside0.mk (blk_below (g := gb411) (o := .cells #[.slice Ao35 t432.length co35, .slice Ao38 t433.length co38] 29 (0, 0)) (by (with_reducible repeat refine blk_alloc ?_ _); exact BK411.out) hb); have n8_ := Aside0.mk (below_step (by repeat (first | (with_reducible first | exact HB.out | apply below_alloc | apply pw_below_drewN | apply below_drew1 | refine below_set ?_ GE389.out | refine below_set ?_ GE411.out) | exact HB.out)) hb); clear HO_10; clear HO_14; clear HO_412000; clear HO_412001; clear BK389; clear BK411; clear HB; have HO_10 := n0_; have HO_14 := n1_; have HO_412000 := n2_; have HO_412001 := n3_; have HO441 := n4_; have HO444 := n5_; have BK389 := n6_; have BK411 := n7_; have HB := n8_; clear n0_ n1_ n2_ n3_ n4_ n5_ n6_ n7_ n8_; (try clear hb); (try clear hb2); (try clear hk); (try clear hi); (try clear ho0); (try clear ho1)) | ((with_reducible refine gate_callee (f := 19) rfl ?_); refine goesL_ (some 107) rfl rfl Try.func19 (by kernel_rfl) rfl #[.slice A2 l2.length c2] rfl (by (try simp only [List.map_toArray, List.map_cons, List.map_nil]); first | done | rfl | (simp only [List.length_drop, List.length_take]; rfl)) ?_; (with_reducible refine (laws_toIntSS.calls kj57 _ _ l2 t445 _ ?side1 ?side2 A85.out).mono ?_); (case side1 => repeat (first | exact (Kd.C_below HR2.out HB.out) | (with_reducible refine Kd.C_alloc ?_ _))); (case side2 => exact HC2.out); rintro e w93 ⟨v446, rfl, ho0, hb⟩; refine ⟨_, rfl, ?_⟩; have n0_ := Aside0.mk (Kd.R_below (by (with_reducible repeat apply Kd.R_alloc); exact HO_10.out) hb); have n1_ := Aside0.mk (Kd.R_below (by (with_reducible repeat apply Kd.R_alloc); exact HO_14.out) hb); have n2_ := Aside0.mk (Kd.R_below (by (with_reducible repeat apply Kd.R_alloc); exact HO_412000.out) hb); have n3_ := Aside0.mk (Kd.R_below (by (with_reducible repeat apply Kd.R_alloc); exact HO_412001.out) hb); have n4_ := Aside0.mk (Kd.R_below (by (with_reducible repeat apply Kd.R_alloc); exact HO441.out) hb); have n5_ := Aside0.mk (Kd.R_below (by (with_reducible repeat apply Kd.R_alloc); exact HO444.out) hb); have n6_ := Aside0.mk (Kd.S_lower (Kd.S_new' (Kd.S_new' (Kd.S_new' (Kd.S_new' (Kd.S_new' (Kd.S_new' ho0 (Kd.R_lt (by (with_reducible repeat apply Kd.R_alloc); exact HO_10.out))) (Kd.R_lt (by (with_reducible repeat apply Kd.R_alloc); exact HO_14.out))) (Kd.R_lt (by (with_reducible repeat apply Kd.R_alloc); exact HO_412000.out))) (Kd.R_lt (by (with_reducible repeat apply Kd.R_alloc); exact HO_412001.out))) (Kd.R_lt (by (with_reducible repeat apply Kd.R_alloc); exact HO441.out))) (Kd.R_lt (by (with_reducible repeat apply Kd.R_alloc); exact HO444.out))) (below_size (by repeat (first | (with_reducible first | exact HB.out | apply below_alloc | apply pw_below_drewN | apply below_drew1 | refine below_set ?_ GE389.out | refine below_set ?_ GE411.out) | exact HB.out)))); have n7_ := Aside0.mk (blk_below (g := gb389) (o := .cells #[.slice A0_0 l0_0.length c0_0, .slice A0_1 l0_1.length c0_1] 24 (0, 0)) (by (with_reducible repeat refine blk_alloc ?_ _); exact BK389.out) hb); have n8_ := Aside0.mk (blk_below (g := gb411) (o := .cells #[.slice Ao35 t432.length co35, .slice Ao38 t433.length co38] 29 (0, 0)) (by (with_reducible repeat refine blk_alloc ?_ _); exact BK411.out) hb); have n9_ := Aside0.mk (below_step (by repeat (first | (with_reducible first | exact HB.out | apply below_alloc | apply pw_below_drewN | apply below_drew1 | refine below_set ?_ GE389.out | refine below_set ?_ GE411.out) | exact HB.out)) hb); clear HO_10; clear HO_14; clear HO_412000; clear HO_412001; clear HO441; clear HO444; clear BK389; clear BK411; clear HB; have HO_10 := n0_; have HO_14 := n1_; have HO_412000 := n2_; have HO_412001 := n3_; have HO441 := n4_; have HO444 := n5_; have HO447 := n6_; have BK389 := n7_; have BK411 := n8_; have HB := n9_; clear n0_ n1_ n2_ n3_ n4_ n5_ n6_ n7_ n8_ n9_; (try clear hb); (try clear hb2); (try clear hk); (try clear hi); (try clear ho0); obtain ⟨Ao94, co94, eo94⟩ := Kd.R_slice HO441.out; subst eo94; obtain ⟨Ao95, co95, eo95⟩ := Kd.R_slice HO444.out; subst eo95; obtain ⟨Ao96, co96, eo96⟩ := Kd.S_slice HO447.out; subst eo96) | ((with_reducible refine gate_callee (f := 44) rfl ?_); refine goesL_ (some 109) rfl rfl Try.func44 (by kernel_rfl) rfl #[.agg #[.slice Ao94 t439.length co94, .slice Ao95 t442.length co95], .int .i64 a1, .slice Ao96 t445.length co96, .int .i64 a3] rfl (by (try simp only [List.map_toArray, List.map_cons, List.map_nil]); first | done | rfl | (simp only [List.length_drop, List.length_take]; rfl)) ?_; (with_reducible refine (impl_CoverWinding.calls kj57 _ _ t439 _ _ t442 a1 _ _ t445 a3 t448 t451 _ ?side1 ?side2 ?side3 ?side4 ?side5 ?side6 A86.out).mono ?_); (case side1 => repeat (first | exact (Kd.R_reads' HO441.out).2.2 | (with_reducible refine Kd.C_alloc ?_ _))); (case side2 => exact (Kd.R_reads' HO441.out).2.1); (case side3 => repeat (first | exact (Kd.R_reads' HO444.out).2.2 | (with_reducible refine Kd.C_alloc ?_ _))); (case side4 => exact (Kd.R_reads' HO444.out).2.1); (case side5 => repeat (first | exact (Kd.S_reads' HO447.out).2.2 | (with_reducible refine Kd.C_alloc ?_ _))); (case side6 => exact (Kd.S_reads' HO447.out).2.1); rintro e w97 ⟨v449, rfl, ho0, hb⟩; refine ⟨_, rfl, ?_⟩; have n0_ := Aside0.mk (Kd.R_elder' (by (with_reducible repeat apply Kd.R_alloc); exact HO_10.out) (Kd.R_base ho0) hb); have n1_ := Aside0.mk (Kd.R_elder' (by (with_reducible repeat apply Kd.R_alloc); exact HO_14.out) (Kd.R_base ho0) hb); have n2_ := Aside0.mk (Kd.R_elder' (by (with_reducible repeat apply Kd.R_alloc); exact HO_412000.out) (Kd.R_base ho0) hb); have n3_ := Aside0.mk (Kd.R_elder' (by (with_reducible repeat apply Kd.R_alloc); exact HO_412001.out) (Kd.R_base ho0) hb); have n4_ := Aside0.mk (Kd.R_elder' (by (with_reducible repeat apply Kd.R_alloc); exact HO441.out) (Kd.R_base ho0) hb); have n5_ := Aside0.mk (Kd.R_elder' (by (with_reducible repeat apply Kd.R_alloc); exact HO444.out) (Kd.R_base ho0) hb); have n6_ := Aside0.mk (Kd.S_elder' (by (with_reducible repeat apply Kd.S_alloc); exact HO447.out) (Kd.R_base ho0) hb); have n7_ := Aside0.mk (Kd.R_lower (Kd.R_new' (Kd.R_new' (Kd.R_new' (Kd.R_new' (Kd.R_new' (Kd.R_new' ho0 (Kd.R_lt (by (with_reducible repeat apply Kd.R_alloc); exact HO_10.out))) (Kd.R_lt (by (with_reducible repeat apply Kd.R_alloc); exact HO_14.out))) (Kd.R_lt (by (with_reducible repeat apply Kd.R_alloc); exact HO_412000.out))) (Kd.R_lt (by (with_reducible repeat apply Kd.R_alloc); exact HO_412001.out))) (Kd.R_lt (by (with_reducible repeat apply Kd.R_alloc); exact HO441.out))) (Kd.R_lt (by (with_reducible repeat apply Kd.R_alloc); exact HO444.out))) (below_size (by repeat (first | (with_reducible first | exact HB.out | apply below_alloc | apply pw_below_drewN | apply below_drew1 | refine below_set ?_ GE389.out | refine below_set ?_ GE411.out) | exact HB.out)))); have n8_ := Aside0.mk (blk_below (g := gb389) (o := .cells #[.slice A0_0 l0_0.length c0_0, .slice A0_1 l0_1.length c0_1] 24 (0, 0)) (by (with_reducible repeat refine blk_alloc ?_ _); exact BK389.out) hb); have n9_ := Aside0.mk (blk_below (g := gb411) (o := .cells #[.slice Ao35 t432.length co35, .slice Ao38 t433.length co38] 29 (0, 0)) (by (with_reducible repeat refine blk_alloc ?_ _); exact BK411.out) hb); have n10_ := Aside0.mk (below_step (by repeat (first | (with_reducible first | exact HB.out | apply below_alloc | apply pw_below_drewN | apply below_drew1 | refine below_set ?_ GE389.out | refine below_set ?_ GE411.out) | exact HB.out)) hb); clear HO_10; clear HO_14; clear HO_412000; clear HO_412001; clear HO441; clear HO444; clear HO447; clear BK389; clear BK411; clear HB; have HO_10 := n0_; have HO_14 := n1_; have HO_412000 := n2_; have HO_412001 := n3_; have HO441 := n4_; have HO444 := n5_; have HO447 := n6_; have HO450 := n7_; have BK389 := n8_; have BK411 := n9_; have HB := n10_; clear n0_ n1_ n2_ n3_ n4_ n5_ n6_ n7_ n8_ n9_ n10_; (try clear hb); (try clear hb2); (try clear hk); (try clear hi); (try clear ho0)))
             (try simp only [Act.put, List.setIfInBounds_toArray, List.set_cons_zero, List.set_cons_succ])
             go_cut [120] (fun v120 wc => ∃ (kq : Nat) (x120_86 : Bool), v120 = .bool x120_86 ∧ Aside0 (laws_FnExactCoverWinding.j2 kq t437 t436 x120_86 = some r) ∧ Aside0 (kq ≤ kj57) ∧ Aside0 (Kd.R (Kd.int .i64) 3 wc w.heap.size (fun k_ => some k_ ≠ ((.slice Ao35 t432.length co35) : Value).ownBlock ∧ some k_ ≠ ((.slice Ao38 t433.length co38) : Value).ownBlock) (.slice Ao88 t415.length co88) t437) ∧ Aside0 (Kd.R (Kd.int .i64) 3 wc w.heap.size (fun k_ => some k_ ≠ ((.slice Ao88 t415.length co88) : Value).ownBlock ∧ some k_ ≠ ((.slice Ao38 t433.length co38) : Value).ownBlock) (.slice Ao35 t432.length co35) t432) ∧ Aside0 (Kd.R (Kd.int .i64) 3 wc w.heap.size (fun k_ => some k_ ≠ ((.slice Ao88 t415.length co88) : Value).ownBlock ∧ some k_ ≠ ((.slice Ao35 t432.length co35) : Value).ownBlock) (.slice Ao38 t433.length co38) t433) ∧ Aside0 (wc.heap[gb389]? = some (.cells #[(.slice A0_0 l0_0.length c0_0), (.slice A0_1 l0_1.length c0_1)] 24 (0, 0))) ∧ Aside0 (wc.heap[gb411]? = some (.cells #[(.slice Ao35 t432.length co35), (.slice Ao38 t433.length co38)] 29 (0, 0))) ∧ Aside0 (Below w.heap.size w wc))
             case first =>
              have H := HC87.out
              clear HC87
              replace H := Option.bind_eq_some_iff.mp H
              obtain ⟨t452, A980, H⟩ := H
              replace H : (if t452 = true then (laws_FnExactCoverWinding.j2 kj57 t437 t436 (t451 != t404)) else (laws_FnExactCoverWinding.j2 kj57 t437 t436 true)) = some r := H
              have A98 := Aside0.mk A980
              clear A980
              by_cases c99 : t452 = true
              ·subst c99
               have H1 : (laws_FnExactCoverWinding.j2 kj57 t437 t436 (t451 != t404)) = some r := by rw [if_pos rfl] at H; exact H
               clear H
               have H := H1
               clear H1
               have H' := Aside0.mk H
               clear H
               obtain ⟨Ao100, co100, eo100⟩ := Kd.R_slice HO450.out
               subst eo100
               obtain ⟨Ao101, co101, eo101⟩ := Kd.R_slice HO_10.out
               subst eo101
               go_wp2_with (first | ((with_reducible refine gate_callee (f := 31) rfl ?_); refine goesL_ (some 114) rfl rfl Try.func31 (by kernel_rfl) rfl #[.slice Ao100 t448.length co100, .slice Ao101 t401.length co101] rfl (by (try simp only [List.map_toArray, List.map_cons, List.map_nil]); first | done | rfl | (simp only [List.length_drop, List.length_take]; rfl)) ?_; (with_reducible refine (laws_eqIntS.calls kj57 _ _ t448 _ _ t401 true _ ?side1 ?side2 ?side3 ?side4 A98.out).mono ?_); (case side1 => repeat (first | exact (Kd.R_reads' HO450.out).2.2 | (with_reducible refine Kd.C_alloc ?_ _))); (case side2 => exact (Kd.R_reads' HO450.out).2.1); (case side3 => repeat (first | exact (Kd.R_reads' HO_10.out).2.2 | (with_reducible refine Kd.C_alloc ?_ _))); (case side4 => exact (Kd.R_reads' HO_10.out).2.1); rintro e w' ⟨rfl, ⟨nd, rfl⟩⟩; refine ⟨_, rfl, ?_⟩))
               go_meet
               case rel => exact ⟨_, ((t451 != t404)), (by first | rfl | (simp; done) | (simp [*]; done)), H', ⟨by have := HJ20.out; have := HJ57.out; first | omega | exact Nat.le_refl _⟩, ⟨by (try simp only [hl412000_57]); (try simp only [hl412001_57]); (with_reducible repeat (first | apply Kd.R_alloc | apply Kd.R_drewN | apply Kd.R_drew)); exact Kd.R_mono HO_14.out (fun _ hk => ⟨hk.1.1.1.2.1, hk.1.1.1.2.2⟩)⟩, ⟨by (try simp only [hl412000_57]); (try simp only [hl412001_57]); (with_reducible repeat (first | apply Kd.R_alloc | apply Kd.R_drewN | apply Kd.R_drew)); exact Kd.R_mono HO_412000.out (fun _ hk => ⟨hk.1.1.1.2.1, hk.1.1.1.2.2⟩)⟩, ⟨by (try simp only [hl412000_57]); (try simp only [hl412001_57]); (with_reducible repeat (first | apply Kd.R_alloc | apply Kd.R_drewN | apply Kd.R_drew)); exact Kd.R_mono HO_412001.out (fun _ hk => ⟨hk.1.1.1.2.1, hk.1.1.1.2.2⟩)⟩, ⟨by (try simp only [hl412000_57]); (try simp only [hl412001_57]); (with_reducible repeat (first | refine blk_drewN ?_ _ | refine blk_drew ?_ | refine blk_alloc ?_ _)); exact BK389.out⟩, ⟨by (try simp only [hl412000_57]); (try simp only [hl412001_57]); (with_reducible repeat (first | refine blk_drewN ?_ _ | refine blk_drew ?_ | refine blk_alloc ?_ _)); exact BK411.out⟩, ⟨by repeat (first | (with_reducible first | exact HB.out | apply below_alloc | apply pw_below_drewN | apply below_drew1 | refine below_set ?_ GE389.out | refine below_set ?_ GE411.out) | exact HB.out)⟩⟩
              ·replace c99 := Bool.eq_false_iff.mpr c99
               subst c99
               have H1 : (laws_FnExactCoverWinding.j2 kj57 t437 t436 true) = some r := by rw [if_neg (show ¬ (false = true) by decide)] at H; exact H
               clear H
               have H := H1
               clear H1
               have H' := Aside0.mk H
               clear H
               obtain ⟨Ao102, co102, eo102⟩ := Kd.R_slice HO450.out
               subst eo102
               obtain ⟨Ao103, co103, eo103⟩ := Kd.R_slice HO_10.out
               subst eo103
               go_wp2_with (first | ((with_reducible refine gate_callee (f := 31) rfl ?_); refine goesL_ (some 114) rfl rfl Try.func31 (by kernel_rfl) rfl #[.slice Ao102 t448.length co102, .slice Ao103 t401.length co103] rfl (by (try simp only [List.map_toArray, List.map_cons, List.map_nil]); first | done | rfl | (simp only [List.length_drop, List.length_take]; rfl)) ?_; (with_reducible refine (laws_eqIntS.calls kj57 _ _ t448 _ _ t401 false _ ?side1 ?side2 ?side3 ?side4 A98.out).mono ?_); (case side1 => repeat (first | exact (Kd.R_reads' HO450.out).2.2 | (with_reducible refine Kd.C_alloc ?_ _))); (case side2 => exact (Kd.R_reads' HO450.out).2.1); (case side3 => repeat (first | exact (Kd.R_reads' HO_10.out).2.2 | (with_reducible refine Kd.C_alloc ?_ _))); (case side4 => exact (Kd.R_reads' HO_10.out).2.1); rintro e w' ⟨rfl, ⟨nd, rfl⟩⟩; refine ⟨_, rfl, ?_⟩))
               go_meet
               case rel => exact ⟨_, (true), (by first | rfl | (simp; done) | (simp [*]; done)), H', ⟨by have := HJ20.out; have := HJ57.out; first | omega | exact Nat.le_refl _⟩, ⟨by (try simp only [hl412000_57]); (try simp only [hl412001_57]); (with_reducible repeat (first | apply Kd.R_alloc | apply Kd.R_drewN | apply Kd.R_drew)); exact Kd.R_mono HO_14.out (fun _ hk => ⟨hk.1.1.1.2.1, hk.1.1.1.2.2⟩)⟩, ⟨by (try simp only [hl412000_57]); (try simp only [hl412001_57]); (with_reducible repeat (first | apply Kd.R_alloc | apply Kd.R_drewN | apply Kd.R_drew)); exact Kd.R_mono HO_412000.out (fun _ hk => ⟨hk.1.1.1.2.1, hk.1.1.1.2.2⟩)⟩, ⟨by (try simp only [hl412000_57]); (try simp only [hl412001_57]); (with_reducible repeat (first | apply Kd.R_alloc | apply Kd.R_drewN | apply Kd.R_drew)); exact Kd.R_mono HO_412001.out (fun _ hk => ⟨hk.1.1.1.2.1, hk.1.1.1.2.2⟩)⟩, ⟨by (try simp only [hl412000_57]); (try simp only [hl412001_57]); (with_reducible repeat (first | refine blk_drewN ?_ _ | refine blk_drew ?_ | refine blk_alloc ?_ _)); exact BK389.out⟩, ⟨by (try simp only [hl412000_57]); (try simp only [hl412001_57]); (with_reducible repeat (first | refine blk_drewN ?_ _ | refine blk_drew ?_ | refine blk_alloc ?_ _)); exact BK411.out⟩, ⟨by repeat (first | (with_reducible first | exact HB.out | apply below_alloc | apply pw_below_drewN | apply below_drew1 | refine below_set ?_ GE389.out | refine below_set ?_ GE411.out) | exact HB.out)⟩⟩
             case rest =>
              clear HC87
              try clear c1
              try clear c2
              try clear p2
              try clear c3
              try clear c4
              try clear c5
              try clear c6
              try clear c6b0
              try clear c7
              try clear c8
              try clear c9
              try clear c10
              try clear c11
              try clear c11b0
              try clear c15
              try clear c16
              try clear c18
              try clear c19
              try clear c21
              try clear c22
              try clear c25
              try clear c26
              try clear c31
              try clear c32
              try clear c33
              try clear c36
              try clear c43
              try clear c44
              try clear c49
              try clear c52
              try clear c55
              try clear c66
              try clear c70
              try clear c70b0
              try clear c72
              try clear c77
              try clear c80
              try clear c80b0
              try clear c83
              try clear c83b0
              try clear c83b1
              try clear c90
              try clear c99
              try clear hcz13_0
              try clear hcz13_1
              try clear hcz23_0
              try clear hcz23_1
              try clear hcz25_0
              try clear hcz25_1
              try clear hcz32_0
              try clear hcz32_1
              try clear hcz37_0
              try clear hcz37_1
              try clear hcz40_0
              try clear hcz40_1
              try clear hcz67_0
              try clear hcz67_1
              try clear hcz8_0
              try clear hcz8_1
              try clear hcz91_0
              try clear hcz91_1
              try clear hfz13_0
              try clear hfz13_1
              try clear hfz23_0
              try clear hfz23_1
              try clear hfz25_0
              try clear hfz25_1
              try clear hfz32_0
              try clear hfz32_1
              try clear hfz37_0
              try clear hfz37_1
              try clear hfz40_0
              try clear hfz40_1
              try clear hfz67_0
              try clear hfz67_1
              try clear hfz8_0
              try clear hfz8_1
              try clear hfz91_0
              try clear hfz91_1
              try clear p2
              obtain ⟨kq, x120_86, rfl, HA, HJ86, HO_14, HO_412000, HO_412001, BK389, BK411, HB⟩ := hcut
              have hl14_86 := (Kd.R_reads' HO_14.out).1
              rw [hl14_86] at HO_14
              (try simp only [hl14_86])
              (try simp only [hl14_86] at BK389)
              (try simp only [hl14_86] at BK411)
              (try simp only [hl14_86] at HO_412000)
              (try simp only [hl14_86] at HO_412001)
              cases kq with
              | zero => exact absurd HA.out (by simp [laws_FnExactCoverWinding.j2])
              | succ kj86 =>
               have H := HA.out
               clear HA
               simp only [laws_FnExactCoverWinding.j2] at H
               by_cases c104 : x120_86 = true
               ·subst c104
                have H1 : (some false) = some r := by rw [if_pos rfl] at H; exact H
                clear H
                have H := H1
                clear H1
                obtain rfl := Option.some.inj H
                go_wp2
                go_ret
                exact ⟨by first | rfl | (simp [errW_none, errW_some] <;> rfl) | (simp [*, errW_none, errW_some] <;> rfl), by repeat (first | (with_reducible first | exact HB.out | apply below_alloc | apply pw_below_drewN | apply below_drew1 | refine below_set ?_ GE389.out | refine below_set ?_ GE411.out) | exact HB.out)⟩
               ·replace c104 := Bool.eq_false_iff.mpr c104
                subst c104
                have H1 : ((laws_heldIntS.f kj86 t437 1).bind fun t453 => (if t453 < 0 then (some false) else (if t453 = t436 then (some true) else (some false)))) = some r := by rw [if_neg (show ¬ (false = true) by decide)] at H; exact H
                clear H
                have H := H1
                clear H1
                replace H := Option.bind_eq_some_iff.mp H
                obtain ⟨t453, A1050, H⟩ := H
                replace H : (if t453 < 0 then (some false) else (if t453 = t436 then (some true) else (some false))) = some r := H
                have A105 := Aside0.mk A1050
                clear A1050
                by_cases c106 : t453 < 0
                ·rw [if_pos c106] at H
                 have c106b0 : decide (t453 < 0) = true := decide_eq_true c106
                 clear c106
                 obtain rfl := Option.some.inj H
                 go_wp2_with (first | ((with_reducible refine gate_callee (f := 33) rfl ?_); refine goesL_ (some 123) rfl rfl Try.func33 (by kernel_rfl) rfl #[.slice Ao88 t437.length co88, .int .i64 1] rfl (by (try simp only [List.map_toArray, List.map_cons, List.map_nil]); first | done | rfl | (simp only [List.length_drop, List.length_take]; rfl)) ?_; (with_reducible refine (laws_heldIntS.calls kj86 _ _ t437 1 t453 _ ?side1 ?side2 A105.out).mono ?_); (case side1 => repeat (first | exact (Kd.R_reads' HO_14.out).2.2 | (with_reducible refine Kd.C_alloc ?_ _))); (case side2 => exact (Kd.R_reads' HO_14.out).2.1); rintro e w' ⟨rfl, ⟨nd, rfl⟩⟩; refine ⟨_, rfl, ?_⟩))
                 go_ret
                 exact ⟨by first | rfl | (simp [errW_none, errW_some] <;> rfl) | (simp [*, errW_none, errW_some] <;> rfl), by repeat (first | (with_reducible first | exact HB.out | apply below_alloc | apply pw_below_drewN | apply below_drew1 | refine below_set ?_ GE389.out | refine below_set ?_ GE411.out) | exact HB.out)⟩
                ·rw [if_neg c106] at H
                 have c106b0 : decide (t453 < 0) = false := decide_eq_false c106
                 clear c106
                 by_cases c107 : t453 = t436
                 ·rw [if_pos c107] at H
                  have c107b0 : (t453 == t436) = true := beq_iff_eq.mpr c107
                  have c107b1 : (t453 != t436) = false := bne_eq_false_iff_eq.mpr c107
                  clear c107
                  obtain rfl := Option.some.inj H
                  go_wp2_with (first | ((with_reducible refine gate_callee (f := 33) rfl ?_); refine goesL_ (some 123) rfl rfl Try.func33 (by kernel_rfl) rfl #[.slice Ao88 t437.length co88, .int .i64 1] rfl (by (try simp only [List.map_toArray, List.map_cons, List.map_nil]); first | done | rfl | (simp only [List.length_drop, List.length_take]; rfl)) ?_; (with_reducible refine (laws_heldIntS.calls kj86 _ _ t437 1 t453 _ ?side1 ?side2 A105.out).mono ?_); (case side1 => repeat (first | exact (Kd.R_reads' HO_14.out).2.2 | (with_reducible refine Kd.C_alloc ?_ _))); (case side2 => exact (Kd.R_reads' HO_14.out).2.1); rintro e w' ⟨rfl, ⟨nd, rfl⟩⟩; refine ⟨_, rfl, ?_⟩))
                  go_ret
                  exact ⟨by first | rfl | (simp [errW_none, errW_some] <;> rfl) | (simp [*, errW_none, errW_some] <;> rfl), by repeat (first | (with_reducible first | exact HB.out | apply below_alloc | apply pw_below_drewN | apply below_drew1 | refine below_set ?_ GE389.out | refine below_set ?_ GE411.out) | exact HB.out)⟩
                 ·rw [if_neg c107] at H
                  have c107b0 : (t453 == t436) = false := beq_eq_false_iff_ne.mpr c107
                  have c107b1 : (t453 != t436) = true := bne_iff_ne.mpr c107
                  obtain rfl := Option.some.inj H
                  go_wp2_with (first | ((with_reducible refine gate_callee (f := 33) rfl ?_); refine goesL_ (some 123) rfl rfl Try.func33 (by kernel_rfl) rfl #[.slice Ao88 t437.length co88, .int .i64 1] rfl (by (try simp only [List.map_toArray, List.map_cons, List.map_nil]); first | done | rfl | (simp only [List.length_drop, List.length_take]; rfl)) ?_; (with_reducible refine (laws_heldIntS.calls kj86 _ _ t437 1 t453 _ ?side1 ?side2 A105.out).mono ?_); (case side1 => repeat (first | exact (Kd.R_reads' HO_14.out).2.2 | (with_reducible refine Kd.C_alloc ?_ _))); (case side2 => exact (Kd.R_reads' HO_14.out).2.1); rintro e w' ⟨rfl, ⟨nd, rfl⟩⟩; refine ⟨_, rfl, ?_⟩))
                  go_ret
                  exact ⟨by first | rfl | (simp [errW_none, errW_some] <;> rfl) | (simp [*, errW_none, errW_some] <;> rfl), by repeat (first | (with_reducible first | exact HB.out | apply below_alloc | apply pw_below_drewN | apply below_drew1 | refine below_set ?_ GE389.out | refine below_set ?_ GE411.out) | exact HB.out)⟩
            ·rw [if_neg c83] at H
             have c83b0 : (t438 == t436) = false := beq_eq_false_iff_ne.mpr c83
             have c83b1 : (t438 != t436) = true := bne_iff_ne.mpr c83
             obtain rfl := Option.some.inj H
             obtain ⟨Ao108, co108, eo108⟩ := Kd.R_slice HO_14.out
             subst eo108
             go_wp2_with (first | ((with_reducible refine gate_callee (f := 32) rfl ?_); refine goesL_ (some 93) rfl rfl Try.func32 (by kernel_rfl) rfl #[.slice Ao108 t415.length co108, .int .i64 1] rfl (by (try simp only [List.map_toArray, List.map_cons, List.map_nil]); first | done | rfl | (simp only [List.length_drop, List.length_take]; rfl)) ?_; (with_reducible refine (laws_markIntS.calls kj57 (fun k_ => some k_ = (.slice Ao108 t415.length co108 : Value).ownBlock) (.slice Ao108 t415.length co108) t415 1 t436 t437 w _ ?side1 ?side2 A78.out).mono ?_); (case side1 => repeat (first | (with_reducible first | exact HB.out | apply below_alloc | apply pw_below_drewN | apply below_drew1 | refine below_set ?_ GE389.out | refine below_set ?_ GE411.out) | exact HB.out)); (case side2 => exact Kd.R_tight rfl HO_14.out); rintro e w109 ⟨rfl, hy0, hb, hkp⟩; refine ⟨_, rfl, ?_⟩; have n0_ := Aside0.mk (Kd.R_mono (ok' := fun k_ => some k_ ≠ (.slice Ao108 t415.length co108 : Value).ownBlock ∧ some k_ ≠ (.slice Ao35 t432.length co35 : Value).ownBlock ∧ some k_ ≠ (.slice Ao38 t433.length co38 : Value).ownBlock) (Kd.R_keptB (HO_10.out) hkp (fun k_ hk_ hs_ => (hk_.1) hs_)) (fun k_ hk_ => ⟨hk_.1.1, hk_.1.2.1, hk_.1.2.2⟩)); have n1_ := Aside0.mk (Kd.R_reok rfl hy0 (fun k_ e_ => HO_14.out.1 k_ e_)); have n2_ := Aside0.mk (Kd.R_mono (ok' := fun k_ => some k_ ≠ (v402 : Value).ownBlock ∧ some k_ ≠ (.slice Ao108 t415.length co108 : Value).ownBlock ∧ some k_ ≠ (.slice Ao38 t433.length co38 : Value).ownBlock) (Kd.R_keptB (HO_412000.out) hkp (fun k_ hk_ hs_ => (hk_.2.1) hs_)) (fun k_ hk_ => ⟨hk_.1.1, hk_.1.2.1, hk_.1.2.2⟩)); have n3_ := Aside0.mk (Kd.R_mono (ok' := fun k_ => some k_ ≠ (v402 : Value).ownBlock ∧ some k_ ≠ (.slice Ao108 t415.length co108 : Value).ownBlock ∧ some k_ ≠ (.slice Ao35 t432.length co35 : Value).ownBlock) (Kd.R_keptB (HO_412001.out) hkp (fun k_ hk_ hs_ => (hk_.2.1) hs_)) (fun k_ hk_ => ⟨hk_.1.1, hk_.1.2.1, hk_.1.2.2⟩)); have n4_ := Aside0.mk (blk_kept (by (with_reducible repeat refine blk_alloc ?_ _); exact BK389.out) hkp (fun hs_ => (fun e_ => (Kd.R_ne HO_14.out BK389.out (by decide)) e_) hs_)); have n5_ := Aside0.mk (blk_kept (by (with_reducible repeat refine blk_alloc ?_ _); exact BK411.out) hkp (fun hs_ => (fun e_ => (Kd.R_ne HO_14.out BK411.out (by decide)) e_) hs_)); have n6_ := Aside0.mk (hb); clear HO_10; clear HO_14; clear HO_412000; clear HO_412001; clear BK389; clear BK411; clear HB; have HO_10 := n0_; have HO_14 := n1_; have HO_412000 := n2_; have HO_412001 := n3_; have BK389 := n4_; have BK411 := n5_; have HB := n6_; clear n0_ n1_ n2_ n3_ n4_ n5_ n6_; (try clear hb); (try clear hkp); (try clear hy0)) | ((with_reducible refine gate_callee (f := 33) rfl ?_); refine goesL_ (some 96) rfl rfl Try.func33 (by kernel_rfl) rfl #[.slice Ao108 t437.length co108, .int .i64 1] rfl (by (try simp only [List.map_toArray, List.map_cons, List.map_nil]); first | done | (rw [show t437.length = t415.length from (Kd.R_reads' HO_14.out).1.symm] <;> rfl) | rfl | (simp only [List.length_drop, List.length_take]; rfl)) ?_; (with_reducible refine (laws_heldIntS.calls kj57 _ _ t437 1 t438 _ ?side1 ?side2 A79.out).mono ?_); (case side1 => repeat (first | exact (Kd.R_reads' HO_14.out).2.2 | (with_reducible refine Kd.C_alloc ?_ _))); (case side2 => rw [show t437.length = t415.length from (Kd.R_reads' HO_14.out).1.symm]; exact (Kd.R_reads' HO_14.out).2.1); rintro e w' ⟨rfl, ⟨nd, rfl⟩⟩; refine ⟨_, rfl, ?_⟩))
             go_ret
             exact ⟨by first | rfl | (simp [errW_none, errW_some] <;> rfl) | (simp [*, errW_none, errW_some] <;> rfl), by repeat (first | (with_reducible first | exact HB.out | apply below_alloc | apply pw_below_drewN | apply below_drew1 | refine below_set ?_ GE389.out | refine below_set ?_ GE411.out) | exact HB.out)⟩
       ·replace c55 := Bool.eq_false_iff.mpr c55
        subst c55
        have H1 : (some false) = some r := by rw [if_neg (show ¬ (false = true) by decide)] at H; exact H
        clear H
        have H := H1
        clear H1
        obtain rfl := Option.some.inj H
        try go_wp2
        have n0_ := Aside0.mk (Kd.R_drew HO_10.out)
        have n1_ := Aside0.mk (Kd.S_drew HO_13.out)
        have n2_ := Aside0.mk (Kd.R_drew HO_14.out)
        have n3_ := Aside0.mk (Kd.R_drew HO_412000.out)
        have n4_ := Aside0.mk (Kd.R_drew HO_412001.out)
        have n5_ := Aside0.mk (blk_drew BK389.out)
        have n6_ := Aside0.mk (blk_drew BK411.out)
        have n7_ := Aside0.mk (below_drew1 HB.out)
        clear HO_10
        clear HO_13
        clear HO_14
        clear HO_412000
        clear HO_412001
        clear BK389
        clear BK411
        clear HB
        have HO_10 := n0_
        have HO_13 := n1_
        have HO_14 := n2_
        have HO_412000 := n3_
        have HO_412001 := n4_
        have BK389 := n5_
        have BK411 := n6_
        have HB := n7_
        clear n0_ n1_ n2_ n3_ n4_ n5_ n6_ n7_
        refine start_ (n := 5) (S := fun w' => w'.cell? ⟨gb411, 0, none⟩ = some (.slice Ao35 t405.length co35) ∧ w'.cell? ⟨gb411, 1, none⟩ = some (.slice Ao38 t408.length co38) ∧ w'.cell? ⟨gb389, 0, none⟩ = some (.slice A0_0 l0_0.length c0_0) ∧ w'.cell? ⟨gb389, 1, none⟩ = some (.slice A0_1 l0_1.length c0_1)) (ds := []) #[false, false, false, false, false] (by kernel_rfl) rfl rfl ⟨(blk_cell BK411.out 0).trans rfl, (blk_cell BK411.out 1).trans rfl, (blk_cell BK389.out 0).trans rfl, (blk_cell BK389.out 1).trans rfl⟩ (fun hHeld => ?_)
        generalize wc.drew = w110 at HO_10 HO_13 HO_14 HO_412000 HO_412001 BK389 BK411 HB hHeld ⊢
        refine take_ (i := 0) (N := some 62) (v := ?_) (a' := ?_) #[true, false, false, false, false] rfl rfl (by kernel_rfl) (fun _ _ _ h => h) (Or.inl ⟨by rfl, ?_⟩) hHeld ?_ ?_
        rotate_left
        ·rintro w' ⟨s0, s1, s2, s3⟩
         go_simp
         with_reducible rfl
        rotate_left
        ·simp only [Act.put, List.setIfInBounds_toArray, List.set_cons_zero, List.set_cons_succ, i64_w, i32_w]
         rfl
        refine take_ (i := 1) (N := some 63) (v := ?_) (a' := ?_) #[true, true, false, false, false] rfl rfl (by kernel_rfl) (fun _ _ _ h => h) (Or.inl ⟨by rfl, ?_⟩) hHeld ?_ ?_
        rotate_left
        ·rintro w' ⟨s0, s1, s2, s3⟩
         go_simp
         with_reducible rfl
        rotate_left
        ·simp only [Act.put, List.setIfInBounds_toArray, List.set_cons_zero, List.set_cons_succ, i64_w, i32_w]
         rfl
        refine one_ (i := 2) (N := some 64) #[true, true, true, false, false] rfl rfl (by kernel_rfl) (by decide) (fun K hK => ?_)
        refine goes_ Try.func18 (by kernel_rfl) rfl #[.agg #[.slice A0_0 l0_0.length c0_0, .slice A0_1 l0_1.length c0_1]] (by rfl) rfl rfl (by (try simp only [List.map_toArray, List.map_cons, List.map_nil]); first | done | rfl | (simp only [List.length_drop, List.length_take]; rfl)) ?_
        with_reducible refine (laws_toMap.calls kj20 _ _ l0_0 _ _ l0_1 t420 t423 _ ?side1 ?side2 ?side3 ?side4 A50.out).mono ?_
        (case side1 => repeat (first | exact (Kd.C_below HR0_0.out HB.out) | (with_reducible refine Kd.C_alloc ?_ _) | (with_reducible refine Kd.C_drewN ?_ _) | (with_reducible refine Kd.C_drew ?_)))
        (case side2 => exact HC0_0.out)
        (case side3 => repeat (first | exact (Kd.C_below HR0_1.out HB.out) | (with_reducible refine Kd.C_alloc ?_ _) | (with_reducible refine Kd.C_drewN ?_ _) | (with_reducible refine Kd.C_drew ?_)))
        (case side4 => exact HC0_1.out)
        rintro e w111 ⟨v421, v424, rfl, ho0, ho1, hb⟩
        refine ⟨_, rfl, ?_⟩
        have n0_ := Aside0.mk (Kd.R_mono (Kd.R_told (Kd.R_told (Kd.R_old (by (with_reducible repeat (first | apply Kd.R_alloc | apply Kd.R_drewN | apply Kd.R_drew)); exact HO_10.out) hb) (Kd.R_base ho0)) (Kd.R_base ho1)) (fun _ h_ => h_.1))
        have n1_ := Aside0.mk (Kd.S_mono (Kd.S_told (Kd.S_told (Kd.S_old (by (with_reducible repeat (first | apply Kd.S_alloc | apply Kd.S_drewN | apply Kd.S_drew)); exact HO_13.out) hb) (Kd.R_base ho0)) (Kd.R_base ho1)) (fun _ h_ => h_.1))
        have n2_ := Aside0.mk (Kd.R_mono (Kd.R_told (Kd.R_told (Kd.R_old (by (with_reducible repeat (first | apply Kd.R_alloc | apply Kd.R_drewN | apply Kd.R_drew)); exact HO_14.out) hb) (Kd.R_base ho0)) (Kd.R_base ho1)) (fun _ h_ => h_.1))
        have n3_ := Aside0.mk (Kd.R_mono (Kd.R_told (Kd.R_told (Kd.R_old (by (with_reducible repeat (first | apply Kd.R_alloc | apply Kd.R_drewN | apply Kd.R_drew)); exact HO_412000.out) hb) (Kd.R_base ho0)) (Kd.R_base ho1)) (fun _ h_ => h_.1))
        have n4_ := Aside0.mk (Kd.R_mono (Kd.R_told (Kd.R_told (Kd.R_old (by (with_reducible repeat (first | apply Kd.R_alloc | apply Kd.R_drewN | apply Kd.R_drew)); exact HO_412001.out) hb) (Kd.R_base ho0)) (Kd.R_base ho1)) (fun _ h_ => h_.1))
        have n5_ := Aside0.mk (Kd.R_lower (Kd.R_new' (Kd.R_new' (Kd.R_new' (Kd.R_new' ho0 (Kd.R_lt (by (with_reducible repeat (first | apply Kd.R_alloc | apply Kd.R_drewN | apply Kd.R_drew)); exact HO_10.out))) (Kd.R_lt (by (with_reducible repeat (first | apply Kd.R_alloc | apply Kd.R_drewN | apply Kd.R_drew)); exact HO_14.out))) (Kd.R_lt (by (with_reducible repeat (first | apply Kd.R_alloc | apply Kd.R_drewN | apply Kd.R_drew)); exact HO_412000.out))) (Kd.R_lt (by (with_reducible repeat (first | apply Kd.R_alloc | apply Kd.R_drewN | apply Kd.R_drew)); exact HO_412001.out))) (below_size (by repeat (first | (with_reducible first | exact HB.out | apply below_alloc | apply pw_below_drewN | apply below_drew1 | refine below_set ?_ GE389.out | refine below_set ?_ GE411.out) | exact HB.out))))
        have n6_ := Aside0.mk (Kd.R_lower (Kd.R_new' (Kd.R_new' (Kd.R_new' (Kd.R_new' ho1 (Kd.R_lt (by (with_reducible repeat (first | apply Kd.R_alloc | apply Kd.R_drewN | apply Kd.R_drew)); exact HO_10.out))) (Kd.R_lt (by (with_reducible repeat (first | apply Kd.R_alloc | apply Kd.R_drewN | apply Kd.R_drew)); exact HO_14.out))) (Kd.R_lt (by (with_reducible repeat (first | apply Kd.R_alloc | apply Kd.R_drewN | apply Kd.R_drew)); exact HO_412000.out))) (Kd.R_lt (by (with_reducible repeat (first | apply Kd.R_alloc | apply Kd.R_drewN | apply Kd.R_drew)); exact HO_412001.out))) (below_size (by repeat (first | (with_reducible first | exact HB.out | apply below_alloc | apply pw_below_drewN | apply below_drew1 | refine below_set ?_ GE389.out | refine below_set ?_ GE411.out) | exact HB.out))))
        have n7_ := Aside0.mk (blk_below (g := gb389) (o := .cells #[.slice A0_0 l0_0.length c0_0, .slice A0_1 l0_1.length c0_1] 24 (0, 0)) (by (with_reducible repeat (first | refine blk_drewN ?_ _ | refine blk_drew ?_ | refine blk_alloc ?_ _)); exact BK389.out) hb)
        have n8_ := Aside0.mk (blk_below (g := gb411) (o := .cells #[.slice Ao35 t405.length co35, .slice Ao38 t408.length co38] 29 (0, 0)) (by (with_reducible repeat (first | refine blk_drewN ?_ _ | refine blk_drew ?_ | refine blk_alloc ?_ _)); exact BK411.out) hb)
        have n9_ := Aside0.mk (below_step (by repeat (first | (with_reducible first | exact HB.out | apply below_alloc | apply pw_below_drewN | apply below_drew1 | refine below_set ?_ GE389.out | refine below_set ?_ GE411.out) | exact HB.out)) hb)
        clear HO_10
        clear HO_13
        clear HO_14
        clear HO_412000
        clear HO_412001
        clear BK389
        clear BK411
        clear HB
        have HO_10 := n0_
        have HO_13 := n1_
        have HO_14 := n2_
        have HO_412000 := n3_
        have HO_412001 := n4_
        have HO422 := n5_
        have HO425 := n6_
        have BK389 := n7_
        have BK411 := n8_
        have HB := n9_
        clear n0_ n1_ n2_ n3_ n4_ n5_ n6_ n7_ n8_ n9_
        (try clear hb)
        (try clear hb2)
        (try clear hk)
        (try clear hi)
        (try clear ho0)
        (try clear ho1)
        obtain ⟨Ao112, co112, eo112⟩ := Kd.R_slice HO422.out
        (first | subst eo112 | (injection eo112 with f1_ f2_ f3_; have f4_ := f1_.symm; have f5_ := f3_.symm; clear f1_ f2_ f3_; subst f4_; subst f5_))
        obtain ⟨Ao113, co113, eo113⟩ := Kd.R_slice HO425.out
        (first | subst eo113 | (injection eo113 with f1_ f2_ f3_; have f4_ := f1_.symm; have f5_ := f3_.symm; clear f1_ f2_ f3_; subst f4_; subst f5_))
        refine hK.out _ _ ⟨(blk_cell BK411.out 0).trans rfl, (blk_cell BK411.out 1).trans rfl, (blk_cell BK389.out 0).trans rfl, (blk_cell BK389.out 1).trans rfl⟩ (fun hHeld => ?_)
        clear hK K
        refine norm_ (a' := ?_) ?_ ?_
        rotate_left
        ·show Act.put _ (some 64) _ = _
         simp only [Act.put, List.setIfInBounds_toArray, List.set_cons_zero, List.set_cons_succ, i64_w, i32_w]
         rfl
        refine one_ (i := 3) (N := some 65) #[true, true, true, true, false] rfl rfl (by kernel_rfl) (by decide) (fun K hK => ?_)
        refine goes_ Try.func21 (by kernel_rfl) rfl #[.agg #[.slice Ao35 t405.length co35, .slice Ao38 t408.length co38], .agg #[.slice Ao112 t420.length co112, .slice Ao113 t423.length co113]] (by rfl) rfl rfl (by (try simp only [List.map_toArray, List.map_cons, List.map_nil]); first | done | rfl | (simp only [List.length_drop, List.length_take]; rfl)) ?_
        with_reducible refine (laws_eqMap.calls kj20 _ _ t405 _ _ t408 _ _ t420 _ _ t423 true _ ?side1 ?side2 ?side3 ?side4 ?side5 ?side6 ?side7 ?side8 A51.out).mono ?_
        (case side1 => repeat (first | exact (Kd.R_reads' HO_412000.out).2.2 | (with_reducible refine Kd.C_alloc ?_ _) | (with_reducible refine Kd.C_drewN ?_ _) | (with_reducible refine Kd.C_drew ?_)))
        (case side2 => exact (Kd.R_reads' HO_412000.out).2.1)
        (case side3 => repeat (first | exact (Kd.R_reads' HO_412001.out).2.2 | (with_reducible refine Kd.C_alloc ?_ _) | (with_reducible refine Kd.C_drewN ?_ _) | (with_reducible refine Kd.C_drew ?_)))
        (case side4 => exact (Kd.R_reads' HO_412001.out).2.1)
        (case side5 => repeat (first | exact (Kd.R_reads' HO422.out).2.2 | (with_reducible refine Kd.C_alloc ?_ _) | (with_reducible refine Kd.C_drewN ?_ _) | (with_reducible refine Kd.C_drew ?_)))
        (case side6 => exact (Kd.R_reads' HO422.out).2.1)
        (case side7 => repeat (first | exact (Kd.R_reads' HO425.out).2.2 | (with_reducible refine Kd.C_alloc ?_ _) | (with_reducible refine Kd.C_drewN ?_ _) | (with_reducible refine Kd.C_drew ?_)))
        (case side8 => exact (Kd.R_reads' HO425.out).2.1)
        rintro e w114 ⟨rfl, hb⟩
        refine ⟨_, rfl, ?_⟩
        have n0_ := Aside0.mk (Kd.R_below (by (with_reducible repeat (first | apply Kd.R_alloc | apply Kd.R_drewN | apply Kd.R_drew)); exact HO_10.out) hb)
        have n1_ := Aside0.mk (Kd.S_below (by (with_reducible repeat (first | apply Kd.S_alloc | apply Kd.S_drewN | apply Kd.S_drew)); exact HO_13.out) hb)
        have n2_ := Aside0.mk (Kd.R_below (by (with_reducible repeat (first | apply Kd.R_alloc | apply Kd.R_drewN | apply Kd.R_drew)); exact HO_14.out) hb)
        have n3_ := Aside0.mk (Kd.R_below (by (with_reducible repeat (first | apply Kd.R_alloc | apply Kd.R_drewN | apply Kd.R_drew)); exact HO_412000.out) hb)
        have n4_ := Aside0.mk (Kd.R_below (by (with_reducible repeat (first | apply Kd.R_alloc | apply Kd.R_drewN | apply Kd.R_drew)); exact HO_412001.out) hb)
        have n5_ := Aside0.mk (Kd.R_below (by (with_reducible repeat (first | apply Kd.R_alloc | apply Kd.R_drewN | apply Kd.R_drew)); exact HO422.out) hb)
        have n6_ := Aside0.mk (Kd.R_below (by (with_reducible repeat (first | apply Kd.R_alloc | apply Kd.R_drewN | apply Kd.R_drew)); exact HO425.out) hb)
        have n7_ := Aside0.mk (blk_below (g := gb389) (o := .cells #[.slice A0_0 l0_0.length c0_0, .slice A0_1 l0_1.length c0_1] 24 (0, 0)) (by (with_reducible repeat (first | refine blk_drewN ?_ _ | refine blk_drew ?_ | refine blk_alloc ?_ _)); exact BK389.out) hb)
        have n8_ := Aside0.mk (blk_below (g := gb411) (o := .cells #[.slice Ao35 t405.length co35, .slice Ao38 t408.length co38] 29 (0, 0)) (by (with_reducible repeat (first | refine blk_drewN ?_ _ | refine blk_drew ?_ | refine blk_alloc ?_ _)); exact BK411.out) hb)
        have n9_ := Aside0.mk (below_step (by repeat (first | (with_reducible first | exact HB.out | apply below_alloc | apply pw_below_drewN | apply below_drew1 | refine below_set ?_ GE389.out | refine below_set ?_ GE411.out) | exact HB.out)) hb)
        clear HO_10
        clear HO_13
        clear HO_14
        clear HO_412000
        clear HO_412001
        clear HO422
        clear HO425
        clear BK389
        clear BK411
        clear HB
        have HO_10 := n0_
        have HO_13 := n1_
        have HO_14 := n2_
        have HO_412000 := n3_
        have HO_412001 := n4_
        have HO422 := n5_
        have HO425 := n6_
        have BK389 := n7_
        have BK411 := n8_
        have HB := n9_
        clear n0_ n1_ n2_ n3_ n4_ n5_ n6_ n7_ n8_ n9_
        (try clear hb)
        (try clear hb2)
        (try clear hk)
        (try clear hi)
        refine hK.out _ _ ⟨(blk_cell BK411.out 0).trans rfl, (blk_cell BK411.out 1).trans rfl, (blk_cell BK389.out 0).trans rfl, (blk_cell BK389.out 1).trans rfl⟩ (fun hHeld => ?_)
        clear hK K
        refine norm_ (a' := ?_) ?_ ?_
        rotate_left
        ·show Act.put _ (some 65) _ = _
         simp only [Act.put, List.setIfInBounds_toArray, List.set_cons_zero, List.set_cons_succ, i64_w, i32_w]
         rfl
        refine pure_ (i := 4) (N := some 66) (v := ?_) (a' := ?_) #[true, true, true, true, true] rfl rfl (by kernel_rfl) (fun _ _ _ h => h) (Or.inl ⟨by rfl, ?_⟩) ?_ ?_
        rotate_left
        ·intro w'
         go_simp
         with_reducible rfl
        rotate_left
        ·simp only [Act.put, List.setIfInBounds_toArray, List.set_cons_zero, List.set_cons_succ, i64_w, i32_w]
         rfl
        refine done_ (by kernel_rfl) ?_
        try go_wp2_with (first | ((with_reducible refine gate_callee (f := 19) rfl ?_); refine goesL_ (some 69) rfl rfl Try.func19 (by kernel_rfl) rfl #[.slice A2 l2.length c2] rfl (by (try simp only [List.map_toArray, List.map_cons, List.map_nil]); first | done | rfl | (simp only [List.length_drop, List.length_take]; rfl)) ?_; (with_reducible refine (laws_toIntSS.calls kj20 _ _ l2 t427 _ ?side1 ?side2 A53.out).mono ?_); (case side1 => repeat (first | exact (Kd.C_below HR2.out HB.out) | (with_reducible refine Kd.C_alloc ?_ _))); (case side2 => exact HC2.out); rintro e w115 ⟨v428, rfl, ho0, hb⟩; refine ⟨_, rfl, ?_⟩; have n0_ := Aside0.mk (Kd.R_below (by (with_reducible repeat apply Kd.R_alloc); exact HO_10.out) hb); have n1_ := Aside0.mk (Kd.S_elder' (by (with_reducible repeat apply Kd.S_alloc); exact HO_13.out) (Kd.S_base ho0) hb); have n2_ := Aside0.mk (Kd.R_below (by (with_reducible repeat apply Kd.R_alloc); exact HO_14.out) hb); have n3_ := Aside0.mk (Kd.R_below (by (with_reducible repeat apply Kd.R_alloc); exact HO_412000.out) hb); have n4_ := Aside0.mk (Kd.R_below (by (with_reducible repeat apply Kd.R_alloc); exact HO_412001.out) hb); have n5_ := Aside0.mk (Kd.R_below (by (with_reducible repeat apply Kd.R_alloc); exact HO422.out) hb); have n6_ := Aside0.mk (Kd.R_below (by (with_reducible repeat apply Kd.R_alloc); exact HO425.out) hb); have n7_ := Aside0.mk (Kd.S_lower (Kd.S_new' (Kd.S_new' (Kd.S_new' (Kd.S_new' (Kd.S_new' (Kd.S_new' (Kd.S_new' ho0 (Kd.R_lt (by (with_reducible repeat apply Kd.R_alloc); exact HO_10.out))) (Kd.S_lt (by (with_reducible repeat apply Kd.S_alloc); exact HO_13.out))) (Kd.R_lt (by (with_reducible repeat apply Kd.R_alloc); exact HO_14.out))) (Kd.R_lt (by (with_reducible repeat apply Kd.R_alloc); exact HO_412000.out))) (Kd.R_lt (by (with_reducible repeat apply Kd.R_alloc); exact HO_412001.out))) (Kd.R_lt (by (with_reducible repeat apply Kd.R_alloc); exact HO422.out))) (Kd.R_lt (by (with_reducible repeat apply Kd.R_alloc); exact HO425.out))) (below_size (by repeat (first | (with_reducible first | exact HB.out | apply below_alloc | apply pw_below_drewN | apply below_drew1 | refine below_set ?_ GE389.out | refine below_set ?_ GE411.out) | exact HB.out)))); have n8_ := Aside0.mk (blk_below (g := gb389) (o := .cells #[.slice A0_0 l0_0.length c0_0, .slice A0_1 l0_1.length c0_1] 24 (0, 0)) (by (with_reducible repeat refine blk_alloc ?_ _); exact BK389.out) hb); have n9_ := Aside0.mk (blk_below (g := gb411) (o := .cells #[.slice Ao35 t405.length co35, .slice Ao38 t408.length co38] 29 (0, 0)) (by (with_reducible repeat refine blk_alloc ?_ _); exact BK411.out) hb); have n10_ := Aside0.mk (below_step (by repeat (first | (with_reducible first | exact HB.out | apply below_alloc | apply pw_below_drewN | apply below_drew1 | refine below_set ?_ GE389.out | refine below_set ?_ GE411.out) | exact HB.out)) hb); clear HO_10; clear HO_13; clear HO_14; clear HO_412000; clear HO_412001; clear HO422; clear HO425; clear BK389; clear BK411; clear HB; have HO_10 := n0_; have HO_13 := n1_; have HO_14 := n2_; have HO_412000 := n3_; have HO_412001 := n4_; have HO422 := n5_; have HO425 := n6_; have HO429 := n7_; have BK389 := n8_; have BK411 := n9_; have HB := n10_; clear n0_ n1_ n2_ n3_ n4_ n5_ n6_ n7_ n8_ n9_ n10_; (try clear hb); (try clear hb2); (try clear hk); (try clear hi); (try clear ho0); obtain ⟨Ao116, co116, eo116⟩ := Kd.S_slice HO429.out; subst eo116) | ((with_reducible refine gate_callee (f := 22) rfl ?_); refine goesL_ (some 70) rfl rfl Try.func22 (by kernel_rfl) rfl #[.slice Ao41 t412.length co41, .slice Ao116 t427.length co116] rfl (by (try simp only [List.map_toArray, List.map_cons, List.map_nil]); first | done | rfl | (simp only [List.length_drop, List.length_take]; rfl)) ?_; (with_reducible refine (laws_eqIntSS.calls kj20 _ _ t412 _ _ t427 false _ ?side1 ?side2 ?side3 ?side4 A54.out).mono ?_); (case side1 => repeat (first | exact (Kd.S_reads' HO_13.out).2.2 | (with_reducible refine Kd.C_alloc ?_ _))); (case side2 => exact (Kd.S_reads' HO_13.out).2.1); (case side3 => repeat (first | exact (Kd.S_reads' HO429.out).2.2 | (with_reducible refine Kd.C_alloc ?_ _))); (case side4 => exact (Kd.S_reads' HO429.out).2.1); rintro e w' ⟨rfl, ⟨nd, rfl⟩⟩; refine ⟨_, rfl, ?_⟩))
        go_ret
        exact ⟨by first | rfl | (simp [errW_none, errW_some] <;> rfl) | (simp [*, errW_none, errW_some] <;> rfl), by repeat (first | (with_reducible first | exact HB.out | apply below_alloc | apply pw_below_drewN | apply below_drew1 | refine below_set ?_ GE389.out | refine below_set ?_ GE411.out) | exact HB.out)⟩
      ·replace c52 := Bool.eq_false_iff.mpr c52
       subst c52
       have H1 : (some false) = some r := by rw [if_neg (show ¬ (false = true) by decide)] at H; exact H
       clear H
       have H := H1
       clear H1
       obtain rfl := Option.some.inj H
       try go_wp2
       have n0_ := Aside0.mk (Kd.R_drew HO_10.out)
       have n1_ := Aside0.mk (Kd.S_drew HO_13.out)
       have n2_ := Aside0.mk (Kd.R_drew HO_14.out)
       have n3_ := Aside0.mk (Kd.R_drew HO_412000.out)
       have n4_ := Aside0.mk (Kd.R_drew HO_412001.out)
       have n5_ := Aside0.mk (blk_drew BK389.out)
       have n6_ := Aside0.mk (blk_drew BK411.out)
       have n7_ := Aside0.mk (below_drew1 HB.out)
       clear HO_10
       clear HO_13
       clear HO_14
       clear HO_412000
       clear HO_412001
       clear BK389
       clear BK411
       clear HB
       have HO_10 := n0_
       have HO_13 := n1_
       have HO_14 := n2_
       have HO_412000 := n3_
       have HO_412001 := n4_
       have BK389 := n5_
       have BK411 := n6_
       have HB := n7_
       clear n0_ n1_ n2_ n3_ n4_ n5_ n6_ n7_
       refine start_ (n := 5) (S := fun w' => w'.cell? ⟨gb411, 0, none⟩ = some (.slice Ao35 t405.length co35) ∧ w'.cell? ⟨gb411, 1, none⟩ = some (.slice Ao38 t408.length co38) ∧ w'.cell? ⟨gb389, 0, none⟩ = some (.slice A0_0 l0_0.length c0_0) ∧ w'.cell? ⟨gb389, 1, none⟩ = some (.slice A0_1 l0_1.length c0_1)) (ds := []) #[false, false, false, false, false] (by kernel_rfl) rfl rfl ⟨(blk_cell BK411.out 0).trans rfl, (blk_cell BK411.out 1).trans rfl, (blk_cell BK389.out 0).trans rfl, (blk_cell BK389.out 1).trans rfl⟩ (fun hHeld => ?_)
       generalize wc.drew = w117 at HO_10 HO_13 HO_14 HO_412000 HO_412001 BK389 BK411 HB hHeld ⊢
       refine take_ (i := 0) (N := some 62) (v := ?_) (a' := ?_) #[true, false, false, false, false] rfl rfl (by kernel_rfl) (fun _ _ _ h => h) (Or.inl ⟨by rfl, ?_⟩) hHeld ?_ ?_
       rotate_left
       ·rintro w' ⟨s0, s1, s2, s3⟩
        go_simp
        with_reducible rfl
       rotate_left
       ·simp only [Act.put, List.setIfInBounds_toArray, List.set_cons_zero, List.set_cons_succ, i64_w, i32_w]
        rfl
       refine take_ (i := 1) (N := some 63) (v := ?_) (a' := ?_) #[true, true, false, false, false] rfl rfl (by kernel_rfl) (fun _ _ _ h => h) (Or.inl ⟨by rfl, ?_⟩) hHeld ?_ ?_
       rotate_left
       ·rintro w' ⟨s0, s1, s2, s3⟩
        go_simp
        with_reducible rfl
       rotate_left
       ·simp only [Act.put, List.setIfInBounds_toArray, List.set_cons_zero, List.set_cons_succ, i64_w, i32_w]
        rfl
       refine one_ (i := 2) (N := some 64) #[true, true, true, false, false] rfl rfl (by kernel_rfl) (by decide) (fun K hK => ?_)
       refine goes_ Try.func18 (by kernel_rfl) rfl #[.agg #[.slice A0_0 l0_0.length c0_0, .slice A0_1 l0_1.length c0_1]] (by rfl) rfl rfl (by (try simp only [List.map_toArray, List.map_cons, List.map_nil]); first | done | rfl | (simp only [List.length_drop, List.length_take]; rfl)) ?_
       with_reducible refine (laws_toMap.calls kj20 _ _ l0_0 _ _ l0_1 t420 t423 _ ?side1 ?side2 ?side3 ?side4 A50.out).mono ?_
       (case side1 => repeat (first | exact (Kd.C_below HR0_0.out HB.out) | (with_reducible refine Kd.C_alloc ?_ _) | (with_reducible refine Kd.C_drewN ?_ _) | (with_reducible refine Kd.C_drew ?_)))
       (case side2 => exact HC0_0.out)
       (case side3 => repeat (first | exact (Kd.C_below HR0_1.out HB.out) | (with_reducible refine Kd.C_alloc ?_ _) | (with_reducible refine Kd.C_drewN ?_ _) | (with_reducible refine Kd.C_drew ?_)))
       (case side4 => exact HC0_1.out)
       rintro e w118 ⟨v421, v424, rfl, ho0, ho1, hb⟩
       refine ⟨_, rfl, ?_⟩
       have n0_ := Aside0.mk (Kd.R_mono (Kd.R_told (Kd.R_told (Kd.R_old (by (with_reducible repeat (first | apply Kd.R_alloc | apply Kd.R_drewN | apply Kd.R_drew)); exact HO_10.out) hb) (Kd.R_base ho0)) (Kd.R_base ho1)) (fun _ h_ => h_.1))
       have n1_ := Aside0.mk (Kd.S_mono (Kd.S_told (Kd.S_told (Kd.S_old (by (with_reducible repeat (first | apply Kd.S_alloc | apply Kd.S_drewN | apply Kd.S_drew)); exact HO_13.out) hb) (Kd.R_base ho0)) (Kd.R_base ho1)) (fun _ h_ => h_.1))
       have n2_ := Aside0.mk (Kd.R_mono (Kd.R_told (Kd.R_told (Kd.R_old (by (with_reducible repeat (first | apply Kd.R_alloc | apply Kd.R_drewN | apply Kd.R_drew)); exact HO_14.out) hb) (Kd.R_base ho0)) (Kd.R_base ho1)) (fun _ h_ => h_.1))
       have n3_ := Aside0.mk (Kd.R_mono (Kd.R_told (Kd.R_told (Kd.R_old (by (with_reducible repeat (first | apply Kd.R_alloc | apply Kd.R_drewN | apply Kd.R_drew)); exact HO_412000.out) hb) (Kd.R_base ho0)) (Kd.R_base ho1)) (fun _ h_ => h_.1))
       have n4_ := Aside0.mk (Kd.R_mono (Kd.R_told (Kd.R_told (Kd.R_old (by (with_reducible repeat (first | apply Kd.R_alloc | apply Kd.R_drewN | apply Kd.R_drew)); exact HO_412001.out) hb) (Kd.R_base ho0)) (Kd.R_base ho1)) (fun _ h_ => h_.1))
       have n5_ := Aside0.mk (Kd.R_lower (Kd.R_new' (Kd.R_new' (Kd.R_new' (Kd.R_new' ho0 (Kd.R_lt (by (with_reducible repeat (first | apply Kd.R_alloc | apply Kd.R_drewN | apply Kd.R_drew)); exact HO_10.out))) (Kd.R_lt (by (with_reducible repeat (first | apply Kd.R_alloc | apply Kd.R_drewN | apply Kd.R_drew)); exact HO_14.out))) (Kd.R_lt (by (with_reducible repeat (first | apply Kd.R_alloc | apply Kd.R_drewN | apply Kd.R_drew)); exact HO_412000.out))) (Kd.R_lt (by (with_reducible repeat (first | apply Kd.R_alloc | apply Kd.R_drewN | apply Kd.R_drew)); exact HO_412001.out))) (below_size (by repeat (first | (with_reducible first | exact HB.out | apply below_alloc | apply pw_below_drewN | apply below_drew1 | refine below_set ?_ GE389.out | refine below_set ?_ GE411.out) | exact HB.out))))
       have n6_ := Aside0.mk (Kd.R_lower (Kd.R_new' (Kd.R_new' (Kd.R_new' (Kd.R_new' ho1 (Kd.R_lt (by (with_reducible repeat (first | apply Kd.R_alloc | apply Kd.R_drewN | apply Kd.R_drew)); exact HO_10.out))) (Kd.R_lt (by (with_reducible repeat (first | apply Kd.R_alloc | apply Kd.R_drewN | apply Kd.R_drew)); exact HO_14.out))) (Kd.R_lt (by (with_reducible repeat (first | apply Kd.R_alloc | apply Kd.R_drewN | apply Kd.R_drew)); exact HO_412000.out))) (Kd.R_lt (by (with_reducible repeat (first | apply Kd.R_alloc | apply Kd.R_drewN | apply Kd.R_drew)); exact HO_412001.out))) (below_size (by repeat (first | (with_reducible first | exact HB.out | apply below_alloc | apply pw_below_drewN | apply below_drew1 | refine below_set ?_ GE389.out | refine below_set ?_ GE411.out) | exact HB.out))))
       have n7_ := Aside0.mk (blk_below (g := gb389) (o := .cells #[.slice A0_0 l0_0.length c0_0, .slice A0_1 l0_1.length c0_1] 24 (0, 0)) (by (with_reducible repeat (first | refine blk_drewN ?_ _ | refine blk_drew ?_ | refine blk_alloc ?_ _)); exact BK389.out) hb)
       have n8_ := Aside0.mk (blk_below (g := gb411) (o := .cells #[.slice Ao35 t405.length co35, .slice Ao38 t408.length co38] 29 (0, 0)) (by (with_reducible repeat (first | refine blk_drewN ?_ _ | refine blk_drew ?_ | refine blk_alloc ?_ _)); exact BK411.out) hb)
       have n9_ := Aside0.mk (below_step (by repeat (first | (with_reducible first | exact HB.out | apply below_alloc | apply pw_below_drewN | apply below_drew1 | refine below_set ?_ GE389.out | refine below_set ?_ GE411.out) | exact HB.out)) hb)
       clear HO_10
       clear HO_13
       clear HO_14
       clear HO_412000
       clear HO_412001
       clear BK389
       clear BK411
       clear HB
       have HO_10 := n0_
       have HO_13 := n1_
       have HO_14 := n2_
       have HO_412000 := n3_
       have HO_412001 := n4_
       have HO422 := n5_
       have HO425 := n6_
       have BK389 := n7_
       have BK411 := n8_
       have HB := n9_
       clear n0_ n1_ n2_ n3_ n4_ n5_ n6_ n7_ n8_ n9_
       (try clear hb)
       (try clear hb2)
       (try clear hk)
       (try clear hi)
       (try clear ho0)
       (try clear ho1)
       obtain ⟨Ao119, co119, eo119⟩ := Kd.R_slice HO422.out
       (first | subst eo119 | (injection eo119 with f1_ f2_ f3_; have f4_ := f1_.symm; have f5_ := f3_.symm; clear f1_ f2_ f3_; subst f4_; subst f5_))
       obtain ⟨Ao120, co120, eo120⟩ := Kd.R_slice HO425.out
       (first | subst eo120 | (injection eo120 with f1_ f2_ f3_; have f4_ := f1_.symm; have f5_ := f3_.symm; clear f1_ f2_ f3_; subst f4_; subst f5_))
       refine hK.out _ _ ⟨(blk_cell BK411.out 0).trans rfl, (blk_cell BK411.out 1).trans rfl, (blk_cell BK389.out 0).trans rfl, (blk_cell BK389.out 1).trans rfl⟩ (fun hHeld => ?_)
       clear hK K
       refine norm_ (a' := ?_) ?_ ?_
       rotate_left
       ·show Act.put _ (some 64) _ = _
        simp only [Act.put, List.setIfInBounds_toArray, List.set_cons_zero, List.set_cons_succ, i64_w, i32_w]
        rfl
       refine one_ (i := 3) (N := some 65) #[true, true, true, true, false] rfl rfl (by kernel_rfl) (by decide) (fun K hK => ?_)
       refine goes_ Try.func21 (by kernel_rfl) rfl #[.agg #[.slice Ao35 t405.length co35, .slice Ao38 t408.length co38], .agg #[.slice Ao119 t420.length co119, .slice Ao120 t423.length co120]] (by rfl) rfl rfl (by (try simp only [List.map_toArray, List.map_cons, List.map_nil]); first | done | rfl | (simp only [List.length_drop, List.length_take]; rfl)) ?_
       with_reducible refine (laws_eqMap.calls kj20 _ _ t405 _ _ t408 _ _ t420 _ _ t423 false _ ?side1 ?side2 ?side3 ?side4 ?side5 ?side6 ?side7 ?side8 A51.out).mono ?_
       (case side1 => repeat (first | exact (Kd.R_reads' HO_412000.out).2.2 | (with_reducible refine Kd.C_alloc ?_ _) | (with_reducible refine Kd.C_drewN ?_ _) | (with_reducible refine Kd.C_drew ?_)))
       (case side2 => exact (Kd.R_reads' HO_412000.out).2.1)
       (case side3 => repeat (first | exact (Kd.R_reads' HO_412001.out).2.2 | (with_reducible refine Kd.C_alloc ?_ _) | (with_reducible refine Kd.C_drewN ?_ _) | (with_reducible refine Kd.C_drew ?_)))
       (case side4 => exact (Kd.R_reads' HO_412001.out).2.1)
       (case side5 => repeat (first | exact (Kd.R_reads' HO422.out).2.2 | (with_reducible refine Kd.C_alloc ?_ _) | (with_reducible refine Kd.C_drewN ?_ _) | (with_reducible refine Kd.C_drew ?_)))
       (case side6 => exact (Kd.R_reads' HO422.out).2.1)
       (case side7 => repeat (first | exact (Kd.R_reads' HO425.out).2.2 | (with_reducible refine Kd.C_alloc ?_ _) | (with_reducible refine Kd.C_drewN ?_ _) | (with_reducible refine Kd.C_drew ?_)))
       (case side8 => exact (Kd.R_reads' HO425.out).2.1)
       rintro e w121 ⟨rfl, hb⟩
       refine ⟨_, rfl, ?_⟩
       have n0_ := Aside0.mk (Kd.R_below (by (with_reducible repeat (first | apply Kd.R_alloc | apply Kd.R_drewN | apply Kd.R_drew)); exact HO_10.out) hb)
       have n1_ := Aside0.mk (Kd.S_below (by (with_reducible repeat (first | apply Kd.S_alloc | apply Kd.S_drewN | apply Kd.S_drew)); exact HO_13.out) hb)
       have n2_ := Aside0.mk (Kd.R_below (by (with_reducible repeat (first | apply Kd.R_alloc | apply Kd.R_drewN | apply Kd.R_drew)); exact HO_14.out) hb)
       have n3_ := Aside0.mk (Kd.R_below (by (with_reducible repeat (first | apply Kd.R_alloc | apply Kd.R_drewN | apply Kd.R_drew)); exact HO_412000.out) hb)
       have n4_ := Aside0.mk (Kd.R_below (by (with_reducible repeat (first | apply Kd.R_alloc | apply Kd.R_drewN | apply Kd.R_drew)); exact HO_412001.out) hb)
       have n5_ := Aside0.mk (Kd.R_below (by (with_reducible repeat (first | apply Kd.R_alloc | apply Kd.R_drewN | apply Kd.R_drew)); exact HO422.out) hb)
       have n6_ := Aside0.mk (Kd.R_below (by (with_reducible repeat (first | apply Kd.R_alloc | apply Kd.R_drewN | apply Kd.R_drew)); exact HO425.out) hb)
       have n7_ := Aside0.mk (blk_below (g := gb389) (o := .cells #[.slice A0_0 l0_0.length c0_0, .slice A0_1 l0_1.length c0_1] 24 (0, 0)) (by (with_reducible repeat (first | refine blk_drewN ?_ _ | refine blk_drew ?_ | refine blk_alloc ?_ _)); exact BK389.out) hb)
       have n8_ := Aside0.mk (blk_below (g := gb411) (o := .cells #[.slice Ao35 t405.length co35, .slice Ao38 t408.length co38] 29 (0, 0)) (by (with_reducible repeat (first | refine blk_drewN ?_ _ | refine blk_drew ?_ | refine blk_alloc ?_ _)); exact BK411.out) hb)
       have n9_ := Aside0.mk (below_step (by repeat (first | (with_reducible first | exact HB.out | apply below_alloc | apply pw_below_drewN | apply below_drew1 | refine below_set ?_ GE389.out | refine below_set ?_ GE411.out) | exact HB.out)) hb)
       clear HO_10
       clear HO_13
       clear HO_14
       clear HO_412000
       clear HO_412001
       clear HO422
       clear HO425
       clear BK389
       clear BK411
       clear HB
       have HO_10 := n0_
       have HO_13 := n1_
       have HO_14 := n2_
       have HO_412000 := n3_
       have HO_412001 := n4_
       have HO422 := n5_
       have HO425 := n6_
       have BK389 := n7_
       have BK411 := n8_
       have HB := n9_
       clear n0_ n1_ n2_ n3_ n4_ n5_ n6_ n7_ n8_ n9_
       (try clear hb)
       (try clear hb2)
       (try clear hk)
       (try clear hi)
       refine hK.out _ _ ⟨(blk_cell BK411.out 0).trans rfl, (blk_cell BK411.out 1).trans rfl, (blk_cell BK389.out 0).trans rfl, (blk_cell BK389.out 1).trans rfl⟩ (fun hHeld => ?_)
       clear hK K
       refine norm_ (a' := ?_) ?_ ?_
       rotate_left
       ·show Act.put _ (some 65) _ = _
        simp only [Act.put, List.setIfInBounds_toArray, List.set_cons_zero, List.set_cons_succ, i64_w, i32_w]
        rfl
       refine pure_ (i := 4) (N := some 66) (v := ?_) (a' := ?_) #[true, true, true, true, true] rfl rfl (by kernel_rfl) (fun _ _ _ h => h) (Or.inl ⟨by rfl, ?_⟩) ?_ ?_
       rotate_left
       ·intro w'
        go_simp
        with_reducible rfl
       rotate_left
       ·simp only [Act.put, List.setIfInBounds_toArray, List.set_cons_zero, List.set_cons_succ, i64_w, i32_w]
        rfl
       refine done_ (by kernel_rfl) ?_
       try go_wp2
       go_ret
       exact ⟨by first | rfl | (simp [errW_none, errW_some] <;> rfl) | (simp [*, errW_none, errW_some] <;> rfl), by repeat (first | (with_reducible first | exact HB.out | apply below_alloc | apply pw_below_drewN | apply below_drew1 | refine below_set ?_ GE389.out | refine below_set ?_ GE411.out) | exact HB.out)⟩

end Go.Proofs.Ytmcgkckdnelcdaa.PFnExactCoverWinding
