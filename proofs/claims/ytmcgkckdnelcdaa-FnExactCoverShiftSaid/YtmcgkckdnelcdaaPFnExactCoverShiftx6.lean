-- Made by a program of this session (wip/tools) out of the loaded program; not trusted: Lean checks it.
import Derived.Test.YtmcgkckdnelcdaaPFnExactCoverShiftx0
import Derived.Test.YtmcgkckdnelcdaaPFnExactCoverShiftx1
import Derived.Test.YtmcgkckdnelcdaaPFnExactCoverShiftx3
import Derived.Test.YtmcgkckdnelcdaaPFnExactCoverShiftx5
namespace Go.Proofs.Ytmcgkckdnelcdaa.PFnExactCoverShift
open Go.RowKit Go.Proofs.YtmcgkckdnelcdaaW.PrintWords Go.Proofs.YtmcgkckdnelcdaaW.PrintLast Go.Proofs.YtmcgkckdnelcdaaW.PrintMore
attribute [local go_sem] max2_int min2_int max_two min_two max_three min_three max_four min_four   -- for this text's walks alone
set_option linter.unusedVariables false
set_option linter.unusedSimpArgs false

/-! ### laws_FnExactCoverShift: function 5 -/
mutual
def laws_FnExactCoverShift.j0 : Nat → Int → List (List Int) → List Int → List Int → Bool → List (List Int) → List Int → List Int → Bool → Bool → List Int → List Int → List Int → List Int → Option (Bool)
  | 0, _, _, _, _, _, _, _, _, _, _, _, _, _, _ => none
  | k + 1, x1, x2, x3, x10, x11, x13, x14, x15, x16, x68, x240000, x240001, x265000, x265001 => if x68 = true then (some false) else ((laws_toMap.f k x240000 x240001).bind fun bt276 => ((laws_eqMap.f k x265000 x265001 bt276.1 bt276.2).bind fun t282 => (if t282 = true then ((laws_toIntSS.f k x2).bind fun t283 => ((laws_eqIntSS.f k x13 t283).bind fun t286 => (if t286 = true then ((laws_toIntS.f k x3).bind fun t287 => ((laws_eqIntS.f k x14 t287).bind fun t290 => (if t290 = true then ((laws_markMap.f k x265000 x265001 1).bind fun bt291 => ((laws_markIntSS.f k x13 bt291.1).bind fun t294 => ((laws_markIntS.f k x14 t294).bind fun bt295 => (if bt295.1 < 0 then (laws_FnExactCoverShift.j1 k x1 x2 x3 x10 x11 x15 true x240000 x240001) else ((laws_eqIntS.f k x15 x10).bind fun t297 => (if t297 = true then (laws_FnExactCoverShift.j1 k x1 x2 x3 x10 x11 x15 (x16 != x11) x240000 x240001) else (laws_FnExactCoverShift.j1 k x1 x2 x3 x10 x11 x15 true x240000 x240001))))))) else (some false)))) else (some false)))) else (some false))))
def laws_FnExactCoverShift.j1 : Nat → Int → List (List Int) → List Int → List Int → Bool → List Int → Bool → List Int → List Int → Option (Bool)
  | 0, _, _, _, _, _, _, _, _, _ => none
  | k + 1, x1, x2, x3, x10, x11, x15, x105, x240000, x240001 => if x105 = true then (some false) else ((laws_markIntS.f k x15 1).bind fun bt298 => ((laws_heldIntS.f k bt298.2 1).bind fun t300 => (if t300 < 0 then (some false) else (if t300 = bt298.1 then ((laws_toMap.f k x240000 x240001).bind fun bt301 => ((laws_toIntSS.f k x2).bind fun t307 => ((laws_toIntS.f k x3).bind fun t310 => ((impl_CoverShift.f k bt301.1 bt301.2 x1 t307 t310).bind fun bt313 => ((laws_eqIntS.f k bt313.1 x10).bind fun t317 => (if t317 = true then (laws_FnExactCoverShift.j2 k bt298.2 bt298.1 (bt313.2 != x11)) else (laws_FnExactCoverShift.j2 k bt298.2 bt298.1 true))))))) else (some false)))))
def laws_FnExactCoverShift.j2 : Nat → List Int → Int → Bool → Option (Bool)
  | 0, _, _, _ => none
  | k + 1, x15, x18, x136 => if x136 = true then (some false) else ((laws_heldIntS.f k x15 1).bind fun t318 => (if t318 < 0 then (some false) else (if t318 = x18 then (some true) else (some false))))
end
def laws_FnExactCoverShift.f (k : Nat) (l0_0 : List Int) (l0_1 : List Int) (a1 : Int) (l2 : List (List Int)) (l3 : List Int) : Option (Bool) := if (l3.length : Int) > 1048576 then (some true) else ((laws_szMap.f l0_0 l0_1 1048576).bind fun t240 => (if t240 < 0 then (some true) else ((laws_szIntSS.f k l2 t240).bind fun t241 => (if t241 < 0 then (some true) else ((laws_toMap.f k l0_0 l0_1).bind fun bt242 => ((laws_toIntSS.f k l2).bind fun t248 => ((laws_toIntS.f k l3).bind fun t251 => ((spec_CoverShift.f k bt242.1 bt242.2 a1 t248 t251).bind fun bt254 => ((laws_toMap.f k l0_0 l0_1).bind fun bt258 => ((laws_toIntSS.f k l2).bind fun t265 => ((laws_toIntS.f k l3).bind fun t268 => ((impl_CoverShift.f k bt258.1 bt258.2 a1 t265 t268).bind fun bt271 => ((laws_eqIntS.f k bt271.1 bt254.1).bind fun t275 => (if t275 = true then (laws_FnExactCoverShift.j0 k a1 l2 l3 bt254.1 bt254.2 t265 t268 bt271.1 bt271.2 (bt271.2 != bt254.2) l0_0 l0_1 bt258.1 bt258.2) else (laws_FnExactCoverShift.j0 k a1 l2 l3 bt254.1 bt254.2 t265 t268 bt271.1 bt271.2 true l0_0 l0_1 bt258.1 bt258.2)))))))))))))))
set_option maxHeartbeats 8000000 in
set_option maxRecDepth 100000 in
theorem laws_FnExactCoverShift.calls (k : Nat) (A0_0 : Option Addr) (c0_0 : Nat) (l0_0 : List Int) (A0_1 : Option Addr) (c0_1 : Nat) (l0_1 : List Int) (a1 : Int) (A2 : Option Addr) (c2 : Nat) (l2 : List (List Int)) (A3 : Option Addr) (c3 : Nat) (l3 : List Int) (r : Bool) (w : World) (hr0_0 : Kd.C (Kd.int .i64) w A0_0 l0_0.length l0_0) (hc0_0 : l0_0.length ≤ c0_0) (hr0_1 : Kd.C (Kd.int .i64) w A0_1 l0_1.length l0_1) (hc0_1 : l0_1.length ≤ c0_1) (hr2 : Kd.C (Kd.slice 3 (Kd.int .i64)) w A2 l2.length l2) (hc2 : l2.length ≤ c2) (hr3 : Kd.C (Kd.int .i64) w A3 l3.length l3) (hc3 : l3.length ≤ c3) (h : laws_FnExactCoverShift.f k l0_0 l0_1 a1 l2 l3 = some r) :
    Calls Try.prog 5 #[.agg #[.slice A0_0 l0_0.length c0_0, .slice A0_1 l0_1.length c0_1], .int .i64 a1, .slice A2 l2.length c2, .slice A3 l3.length c3] w fun e w' => e = .returned (.bool r) ∧ Below w.heap.size w w' := by
 have hu24 := Try.underlying24
 have hu29 := Try.underlying29
 have HR0_0 := Aside0.mk hr0_0
 have HC0_0 := Aside0.mk hc0_0
 clear hr0_0 hc0_0
 have HR0_1 := Aside0.mk hr0_1
 have HC0_1 := Aside0.mk hc0_1
 clear hr0_1 hc0_1
 have HR2 := Aside0.mk hr2
 have HC2 := Aside0.mk hc2
 clear hr2 hc2
 have HR3 := Aside0.mk hr3
 have HC3 := Aside0.mk hc3
 clear hr3 hc3
 have HB := Aside0.mk (Below.refl w.heap.size w)
 have H : (if (l3.length : Int) > 1048576 then (some true) else ((laws_szMap.f l0_0 l0_1 1048576).bind fun t240 => (if t240 < 0 then (some true) else ((laws_szIntSS.f k l2 t240).bind fun t241 => (if t241 < 0 then (some true) else ((laws_toMap.f k l0_0 l0_1).bind fun bt242 => ((laws_toIntSS.f k l2).bind fun t248 => ((laws_toIntS.f k l3).bind fun t251 => ((spec_CoverShift.f k bt242.1 bt242.2 a1 t248 t251).bind fun bt254 => ((laws_toMap.f k l0_0 l0_1).bind fun bt258 => ((laws_toIntSS.f k l2).bind fun t265 => ((laws_toIntS.f k l3).bind fun t268 => ((impl_CoverShift.f k bt258.1 bt258.2 a1 t265 t268).bind fun bt271 => ((laws_eqIntS.f k bt271.1 bt254.1).bind fun t275 => (if t275 = true then (laws_FnExactCoverShift.j0 k a1 l2 l3 bt254.1 bt254.2 t265 t268 bt271.1 bt271.2 (bt271.2 != bt254.2) l0_0 l0_1 bt258.1 bt258.2) else (laws_FnExactCoverShift.j0 k a1 l2 l3 bt254.1 bt254.2 t265 t268 bt271.1 bt271.2 true l0_0 l0_1 bt258.1 bt258.2)))))))))))))))) = some r := h
 clear h
 by_cases c5 : (l3.length : Int) > 1048576
 ·rw [if_pos c5] at H
  have c5b0 : decide (1048576 < (l3.length : Int)) = true := decide_eq_true c5
  have c5b1 : decide (1048576 < l3.length) = true := decide_eq_true (by omega)
  clear c5
  obtain rfl := Option.some.inj H
  go_enter Try.func5, Try.ntmps5
  go_wp2_with (first | ((with_reducible refine gate_dst (N := 4) rfl ?_); refine box_event ?hg (N := 4) ?hd (cs := #[.slice A0_0 l0_0.length c0_0, .slice A0_1 l0_1.length c0_1]) (t := 24) ?hr ?_; (case hd => rfl); (case hg => rfl); (case hr => first | (go_simp; done) | (go_simp; rfl)); intro gb239 hg w6 hbox hb; have n0_ := Aside0.mk (below_step (by repeat (first | (with_reducible first | exact HB.out | apply below_alloc | apply pw_below_drewN | apply below_drew1) | exact HB.out)) hb); have n1_ := Aside0.mk (hbox); have n2_ := Aside0.mk ((by rw [hg]; exact (below_size (by repeat (first | (with_reducible first | exact HB.out | apply below_alloc | apply pw_below_drewN | apply below_drew1) | exact HB.out))) : w.heap.size ≤ gb239)); have n3_ := Aside0.mk ((by rw [hg]; exact (below_size (by repeat (first | (with_reducible first | exact HB.out | apply below_alloc | apply pw_below_drewN | apply below_drew1) | exact HB.out))) : w.heap.size ≤ gb239)); clear HB; have HB := n0_; have BK239 := n1_; have GW239 := n2_; have GE239 := n3_; clear n0_ n1_ n2_ n3_; clear hb hbox hg))
  go_ret
  exact ⟨by first | rfl | (simp [errW_none, errW_some] <;> rfl) | (simp [*, errW_none, errW_some] <;> rfl), by repeat (first | (with_reducible first | exact HB.out | apply below_alloc | apply pw_below_drewN | apply below_drew1 | refine below_set ?_ GE239.out) | exact HB.out)⟩
 ·rw [if_neg c5] at H
  have c5b0 : decide (1048576 < (l3.length : Int)) = false := decide_eq_false c5
  have c5b1 : decide (1048576 < l3.length) = false := decide_eq_false (by omega)
  clear c5
  replace H := Option.bind_eq_some_iff.mp H
  obtain ⟨t240, A70, H⟩ := H
  replace H : (if t240 < 0 then (some true) else ((laws_szIntSS.f k l2 t240).bind fun t241 => (if t241 < 0 then (some true) else ((laws_toMap.f k l0_0 l0_1).bind fun bt242 => ((laws_toIntSS.f k l2).bind fun t248 => ((laws_toIntS.f k l3).bind fun t251 => ((spec_CoverShift.f k bt242.1 bt242.2 a1 t248 t251).bind fun bt254 => ((laws_toMap.f k l0_0 l0_1).bind fun bt258 => ((laws_toIntSS.f k l2).bind fun t265 => ((laws_toIntS.f k l3).bind fun t268 => ((impl_CoverShift.f k bt258.1 bt258.2 a1 t265 t268).bind fun bt271 => ((laws_eqIntS.f k bt271.1 bt254.1).bind fun t275 => (if t275 = true then (laws_FnExactCoverShift.j0 k a1 l2 l3 bt254.1 bt254.2 t265 t268 bt271.1 bt271.2 (bt271.2 != bt254.2) l0_0 l0_1 bt258.1 bt258.2) else (laws_FnExactCoverShift.j0 k a1 l2 l3 bt254.1 bt254.2 t265 t268 bt271.1 bt271.2 true l0_0 l0_1 bt258.1 bt258.2)))))))))))))) = some r := H
  have A7 := Aside0.mk A70
  clear A70
  by_cases c8 : t240 < 0
  ·rw [if_pos c8] at H
   have c8b0 : decide (t240 < 0) = true := decide_eq_true c8
   clear c8
   obtain rfl := Option.some.inj H
   go_enter Try.func5, Try.ntmps5
   go_wp2_with (first | ((with_reducible refine gate_dst (N := 4) rfl ?_); refine box_event ?hg (N := 4) ?hd (cs := #[.slice A0_0 l0_0.length c0_0, .slice A0_1 l0_1.length c0_1]) (t := 24) ?hr ?_; (case hd => rfl); (case hg => rfl); (case hr => first | (go_simp; done) | (go_simp; rfl)); intro gb239 hg w9 hbox hb; have n0_ := Aside0.mk (below_step (by repeat (first | (with_reducible first | exact HB.out | apply below_alloc | apply pw_below_drewN | apply below_drew1) | exact HB.out)) hb); have n1_ := Aside0.mk (hbox); have n2_ := Aside0.mk ((by rw [hg]; exact (below_size (by repeat (first | (with_reducible first | exact HB.out | apply below_alloc | apply pw_below_drewN | apply below_drew1) | exact HB.out))) : w.heap.size ≤ gb239)); have n3_ := Aside0.mk ((by rw [hg]; exact (below_size (by repeat (first | (with_reducible first | exact HB.out | apply below_alloc | apply pw_below_drewN | apply below_drew1) | exact HB.out))) : w.heap.size ≤ gb239)); clear HB; have HB := n0_; have BK239 := n1_; have GW239 := n2_; have GE239 := n3_; clear n0_ n1_ n2_ n3_; clear hb hbox hg; have hcz10_0 : w9.cell? ⟨gb239, 0, none⟩ = some (.slice A0_0 l0_0.length c0_0) := (blk_cell BK239.out 0).trans rfl; have hcz10_1 : w9.cell? ⟨gb239, 1, none⟩ = some (.slice A0_1 l0_1.length c0_1) := (blk_cell BK239.out 1).trans rfl; have hfz10_0 := blk_frozen BK239.out 0; have hfz10_1 := blk_frozen BK239.out 1) | ((with_reducible refine gate_callee (f := 15) rfl ?_); refine goesL_ (some 27) rfl rfl Try.func15 (by kernel_rfl) rfl #[.agg #[.slice A0_0 l0_0.length c0_0, .slice A0_1 l0_1.length c0_1], .int .i64 1048576] rfl (by (try simp only [List.map_toArray, List.map_cons, List.map_nil]); first | done | rfl | (simp only [List.length_drop, List.length_take]; rfl)) ?_; (with_reducible refine (laws_szMap.calls _ _ l0_0 _ _ l0_1 1048576 t240 _ ?side1 ?side2 ?side3 ?side4 A7.out).mono ?_); (case side1 => repeat (first | exact (Kd.C_below HR0_0.out HB.out) | (with_reducible refine Kd.C_alloc ?_ _))); (case side2 => exact HC0_0.out); (case side3 => repeat (first | exact (Kd.C_below HR0_1.out HB.out) | (with_reducible refine Kd.C_alloc ?_ _))); (case side4 => exact HC0_1.out); rintro e w11 ⟨rfl, hb⟩; refine ⟨_, rfl, ?_⟩; have n0_ := Aside0.mk (blk_below (g := gb239) (o := .cells #[.slice A0_0 l0_0.length c0_0, .slice A0_1 l0_1.length c0_1] 24 (0, 0)) (by (with_reducible repeat refine blk_alloc ?_ _); exact BK239.out) hb); have n1_ := Aside0.mk (below_step (by repeat (first | (with_reducible first | exact HB.out | apply below_alloc | apply pw_below_drewN | apply below_drew1 | refine below_set ?_ GE239.out) | exact HB.out)) hb); clear BK239; clear HB; have BK239 := n0_; have HB := n1_; clear n0_ n1_; (try clear hb); (try clear hb2); (try clear hk); (try clear hi)))
   go_ret
   exact ⟨by first | rfl | (simp [errW_none, errW_some] <;> rfl) | (simp [*, errW_none, errW_some] <;> rfl), by repeat (first | (with_reducible first | exact HB.out | apply below_alloc | apply pw_below_drewN | apply below_drew1 | refine below_set ?_ GE239.out) | exact HB.out)⟩
  ·rw [if_neg c8] at H
   have c8b0 : decide (t240 < 0) = false := decide_eq_false c8
   clear c8
   replace H := Option.bind_eq_some_iff.mp H
   obtain ⟨t241, A120, H⟩ := H
   replace H : (if t241 < 0 then (some true) else ((laws_toMap.f k l0_0 l0_1).bind fun bt242 => ((laws_toIntSS.f k l2).bind fun t248 => ((laws_toIntS.f k l3).bind fun t251 => ((spec_CoverShift.f k bt242.1 bt242.2 a1 t248 t251).bind fun bt254 => ((laws_toMap.f k l0_0 l0_1).bind fun bt258 => ((laws_toIntSS.f k l2).bind fun t265 => ((laws_toIntS.f k l3).bind fun t268 => ((impl_CoverShift.f k bt258.1 bt258.2 a1 t265 t268).bind fun bt271 => ((laws_eqIntS.f k bt271.1 bt254.1).bind fun t275 => (if t275 = true then (laws_FnExactCoverShift.j0 k a1 l2 l3 bt254.1 bt254.2 t265 t268 bt271.1 bt271.2 (bt271.2 != bt254.2) l0_0 l0_1 bt258.1 bt258.2) else (laws_FnExactCoverShift.j0 k a1 l2 l3 bt254.1 bt254.2 t265 t268 bt271.1 bt271.2 true l0_0 l0_1 bt258.1 bt258.2)))))))))))) = some r := H
   have A12 := Aside0.mk A120
   clear A120
   by_cases c13 : t241 < 0
   ·rw [if_pos c13] at H
    have c13b0 : decide (t241 < 0) = true := decide_eq_true c13
    clear c13
    obtain rfl := Option.some.inj H
    go_enter Try.func5, Try.ntmps5
    go_wp2_with (first | ((with_reducible refine gate_dst (N := 4) rfl ?_); refine box_event ?hg (N := 4) ?hd (cs := #[.slice A0_0 l0_0.length c0_0, .slice A0_1 l0_1.length c0_1]) (t := 24) ?hr ?_; (case hd => rfl); (case hg => rfl); (case hr => first | (go_simp; done) | (go_simp; rfl)); intro gb239 hg w14 hbox hb; have n0_ := Aside0.mk (below_step (by repeat (first | (with_reducible first | exact HB.out | apply below_alloc | apply pw_below_drewN | apply below_drew1) | exact HB.out)) hb); have n1_ := Aside0.mk (hbox); have n2_ := Aside0.mk ((by rw [hg]; exact (below_size (by repeat (first | (with_reducible first | exact HB.out | apply below_alloc | apply pw_below_drewN | apply below_drew1) | exact HB.out))) : w.heap.size ≤ gb239)); have n3_ := Aside0.mk ((by rw [hg]; exact (below_size (by repeat (first | (with_reducible first | exact HB.out | apply below_alloc | apply pw_below_drewN | apply below_drew1) | exact HB.out))) : w.heap.size ≤ gb239)); clear HB; have HB := n0_; have BK239 := n1_; have GW239 := n2_; have GE239 := n3_; clear n0_ n1_ n2_ n3_; clear hb hbox hg; have hcz15_0 : w14.cell? ⟨gb239, 0, none⟩ = some (.slice A0_0 l0_0.length c0_0) := (blk_cell BK239.out 0).trans rfl; have hcz15_1 : w14.cell? ⟨gb239, 1, none⟩ = some (.slice A0_1 l0_1.length c0_1) := (blk_cell BK239.out 1).trans rfl; have hfz15_0 := blk_frozen BK239.out 0; have hfz15_1 := blk_frozen BK239.out 1) | ((with_reducible refine gate_callee (f := 15) rfl ?_); refine goesL_ (some 27) rfl rfl Try.func15 (by kernel_rfl) rfl #[.agg #[.slice A0_0 l0_0.length c0_0, .slice A0_1 l0_1.length c0_1], .int .i64 1048576] rfl (by (try simp only [List.map_toArray, List.map_cons, List.map_nil]); first | done | rfl | (simp only [List.length_drop, List.length_take]; rfl)) ?_; (with_reducible refine (laws_szMap.calls _ _ l0_0 _ _ l0_1 1048576 t240 _ ?side1 ?side2 ?side3 ?side4 A7.out).mono ?_); (case side1 => repeat (first | exact (Kd.C_below HR0_0.out HB.out) | (with_reducible refine Kd.C_alloc ?_ _))); (case side2 => exact HC0_0.out); (case side3 => repeat (first | exact (Kd.C_below HR0_1.out HB.out) | (with_reducible refine Kd.C_alloc ?_ _))); (case side4 => exact HC0_1.out); rintro e w16 ⟨rfl, hb⟩; refine ⟨_, rfl, ?_⟩; have n0_ := Aside0.mk (blk_below (g := gb239) (o := .cells #[.slice A0_0 l0_0.length c0_0, .slice A0_1 l0_1.length c0_1] 24 (0, 0)) (by (with_reducible repeat refine blk_alloc ?_ _); exact BK239.out) hb); have n1_ := Aside0.mk (below_step (by repeat (first | (with_reducible first | exact HB.out | apply below_alloc | apply pw_below_drewN | apply below_drew1 | refine below_set ?_ GE239.out) | exact HB.out)) hb); clear BK239; clear HB; have BK239 := n0_; have HB := n1_; clear n0_ n1_; (try clear hb); (try clear hb2); (try clear hk); (try clear hi)) | ((with_reducible refine gate_callee (f := 16) rfl ?_); refine goesL_ (some 32) rfl rfl Try.func16 (by kernel_rfl) rfl #[.slice A2 l2.length c2, .int .i64 t240] rfl (by (try simp only [List.map_toArray, List.map_cons, List.map_nil]); first | done | rfl | (simp only [List.length_drop, List.length_take]; rfl)) ?_; (with_reducible refine (laws_szIntSS.calls k _ _ l2 t240 t241 _ ?side1 ?side2 A12.out).mono ?_); (case side1 => repeat (first | exact (Kd.C_below HR2.out HB.out) | (with_reducible refine Kd.C_alloc ?_ _))); (case side2 => exact HC2.out); rintro e w' ⟨rfl, ⟨nd, rfl⟩⟩; refine ⟨_, rfl, ?_⟩))
    go_ret
    exact ⟨by first | rfl | (simp [errW_none, errW_some] <;> rfl) | (simp [*, errW_none, errW_some] <;> rfl), by repeat (first | (with_reducible first | exact HB.out | apply below_alloc | apply pw_below_drewN | apply below_drew1 | refine below_set ?_ GE239.out) | exact HB.out)⟩
   ·rw [if_neg c13] at H
    have c13b0 : decide (t241 < 0) = false := decide_eq_false c13
    clear c13
    replace H := Option.bind_eq_some_iff.mp H
    obtain ⟨⟨t242, t245⟩, A170, H⟩ := H
    replace H : ((laws_toIntSS.f k l2).bind fun t248 => ((laws_toIntS.f k l3).bind fun t251 => ((spec_CoverShift.f k t242 t245 a1 t248 t251).bind fun bt254 => ((laws_toMap.f k l0_0 l0_1).bind fun bt258 => ((laws_toIntSS.f k l2).bind fun t265 => ((laws_toIntS.f k l3).bind fun t268 => ((impl_CoverShift.f k bt258.1 bt258.2 a1 t265 t268).bind fun bt271 => ((laws_eqIntS.f k bt271.1 bt254.1).bind fun t275 => (if t275 = true then (laws_FnExactCoverShift.j0 k a1 l2 l3 bt254.1 bt254.2 t265 t268 bt271.1 bt271.2 (bt271.2 != bt254.2) l0_0 l0_1 bt258.1 bt258.2) else (laws_FnExactCoverShift.j0 k a1 l2 l3 bt254.1 bt254.2 t265 t268 bt271.1 bt271.2 true l0_0 l0_1 bt258.1 bt258.2)))))))))) = some r := H
    have A17 := Aside0.mk A170
    clear A170
    replace H := Option.bind_eq_some_iff.mp H
    obtain ⟨t248, A180, H⟩ := H
    replace H : ((laws_toIntS.f k l3).bind fun t251 => ((spec_CoverShift.f k t242 t245 a1 t248 t251).bind fun bt254 => ((laws_toMap.f k l0_0 l0_1).bind fun bt258 => ((laws_toIntSS.f k l2).bind fun t265 => ((laws_toIntS.f k l3).bind fun t268 => ((impl_CoverShift.f k bt258.1 bt258.2 a1 t265 t268).bind fun bt271 => ((laws_eqIntS.f k bt271.1 bt254.1).bind fun t275 => (if t275 = true then (laws_FnExactCoverShift.j0 k a1 l2 l3 bt254.1 bt254.2 t265 t268 bt271.1 bt271.2 (bt271.2 != bt254.2) l0_0 l0_1 bt258.1 bt258.2) else (laws_FnExactCoverShift.j0 k a1 l2 l3 bt254.1 bt254.2 t265 t268 bt271.1 bt271.2 true l0_0 l0_1 bt258.1 bt258.2))))))))) = some r := H
    have A18 := Aside0.mk A180
    clear A180
    replace H := Option.bind_eq_some_iff.mp H
    obtain ⟨t251, A190, H⟩ := H
    replace H : ((spec_CoverShift.f k t242 t245 a1 t248 t251).bind fun bt254 => ((laws_toMap.f k l0_0 l0_1).bind fun bt258 => ((laws_toIntSS.f k l2).bind fun t265 => ((laws_toIntS.f k l3).bind fun t268 => ((impl_CoverShift.f k bt258.1 bt258.2 a1 t265 t268).bind fun bt271 => ((laws_eqIntS.f k bt271.1 bt254.1).bind fun t275 => (if t275 = true then (laws_FnExactCoverShift.j0 k a1 l2 l3 bt254.1 bt254.2 t265 t268 bt271.1 bt271.2 (bt271.2 != bt254.2) l0_0 l0_1 bt258.1 bt258.2) else (laws_FnExactCoverShift.j0 k a1 l2 l3 bt254.1 bt254.2 t265 t268 bt271.1 bt271.2 true l0_0 l0_1 bt258.1 bt258.2)))))))) = some r := H
    have A19 := Aside0.mk A190
    clear A190
    replace H := Option.bind_eq_some_iff.mp H
    obtain ⟨⟨t254, t257⟩, A200, H⟩ := H
    replace H : ((laws_toMap.f k l0_0 l0_1).bind fun bt258 => ((laws_toIntSS.f k l2).bind fun t265 => ((laws_toIntS.f k l3).bind fun t268 => ((impl_CoverShift.f k bt258.1 bt258.2 a1 t265 t268).bind fun bt271 => ((laws_eqIntS.f k bt271.1 t254).bind fun t275 => (if t275 = true then (laws_FnExactCoverShift.j0 k a1 l2 l3 t254 t257 t265 t268 bt271.1 bt271.2 (bt271.2 != t257) l0_0 l0_1 bt258.1 bt258.2) else (laws_FnExactCoverShift.j0 k a1 l2 l3 t254 t257 t265 t268 bt271.1 bt271.2 true l0_0 l0_1 bt258.1 bt258.2))))))) = some r := H
    have A20 := Aside0.mk A200
    clear A200
    replace H := Option.bind_eq_some_iff.mp H
    obtain ⟨⟨t258, t261⟩, A210, H⟩ := H
    replace H : ((laws_toIntSS.f k l2).bind fun t265 => ((laws_toIntS.f k l3).bind fun t268 => ((impl_CoverShift.f k t258 t261 a1 t265 t268).bind fun bt271 => ((laws_eqIntS.f k bt271.1 t254).bind fun t275 => (if t275 = true then (laws_FnExactCoverShift.j0 k a1 l2 l3 t254 t257 t265 t268 bt271.1 bt271.2 (bt271.2 != t257) l0_0 l0_1 t258 t261) else (laws_FnExactCoverShift.j0 k a1 l2 l3 t254 t257 t265 t268 bt271.1 bt271.2 true l0_0 l0_1 t258 t261)))))) = some r := H
    have A21 := Aside0.mk A210
    clear A210
    replace H := Option.bind_eq_some_iff.mp H
    obtain ⟨t265, A220, H⟩ := H
    replace H : ((laws_toIntS.f k l3).bind fun t268 => ((impl_CoverShift.f k t258 t261 a1 t265 t268).bind fun bt271 => ((laws_eqIntS.f k bt271.1 t254).bind fun t275 => (if t275 = true then (laws_FnExactCoverShift.j0 k a1 l2 l3 t254 t257 t265 t268 bt271.1 bt271.2 (bt271.2 != t257) l0_0 l0_1 t258 t261) else (laws_FnExactCoverShift.j0 k a1 l2 l3 t254 t257 t265 t268 bt271.1 bt271.2 true l0_0 l0_1 t258 t261))))) = some r := H
    have A22 := Aside0.mk A220
    clear A220
    replace H := Option.bind_eq_some_iff.mp H
    obtain ⟨t268, A230, H⟩ := H
    replace H : ((impl_CoverShift.f k t258 t261 a1 t265 t268).bind fun bt271 => ((laws_eqIntS.f k bt271.1 t254).bind fun t275 => (if t275 = true then (laws_FnExactCoverShift.j0 k a1 l2 l3 t254 t257 t265 t268 bt271.1 bt271.2 (bt271.2 != t257) l0_0 l0_1 t258 t261) else (laws_FnExactCoverShift.j0 k a1 l2 l3 t254 t257 t265 t268 bt271.1 bt271.2 true l0_0 l0_1 t258 t261)))) = some r := H
    have A23 := Aside0.mk A230
    clear A230
    replace H := Option.bind_eq_some_iff.mp H
    obtain ⟨⟨t271, t274⟩, A240, H⟩ := H
    replace H : ((laws_eqIntS.f k t271 t254).bind fun t275 => (if t275 = true then (laws_FnExactCoverShift.j0 k a1 l2 l3 t254 t257 t265 t268 t271 t274 (t274 != t257) l0_0 l0_1 t258 t261) else (laws_FnExactCoverShift.j0 k a1 l2 l3 t254 t257 t265 t268 t271 t274 true l0_0 l0_1 t258 t261))) = some r := H
    have A24 := Aside0.mk A240
    clear A240
    have HC25 := Aside0.mk H
    clear H
    go_enter Try.func5, Try.ntmps5
    go_upto_region 15 with (first | ((with_reducible refine gate_dst (N := 4) rfl ?_); refine box_event ?hg (N := 4) ?hd (cs := #[.slice A0_0 l0_0.length c0_0, .slice A0_1 l0_1.length c0_1]) (t := 24) ?hr ?_; (case hd => rfl); (case hg => rfl); (case hr => first | (go_simp; done) | (go_simp; rfl)); intro gb239 hg w26 hbox hb; have n0_ := Aside0.mk (below_step (by repeat (first | (with_reducible first | exact HB.out | apply below_alloc | apply pw_below_drewN | apply below_drew1) | exact HB.out)) hb); have n1_ := Aside0.mk (hbox); have n2_ := Aside0.mk ((by rw [hg]; exact (below_size (by repeat (first | (with_reducible first | exact HB.out | apply below_alloc | apply pw_below_drewN | apply below_drew1) | exact HB.out))) : w.heap.size ≤ gb239)); have n3_ := Aside0.mk ((by rw [hg]; exact (below_size (by repeat (first | (with_reducible first | exact HB.out | apply below_alloc | apply pw_below_drewN | apply below_drew1) | exact HB.out))) : w.heap.size ≤ gb239)); clear HB; have HB := n0_; have BK239 := n1_; have GW239 := n2_; have GE239 := n3_; clear n0_ n1_ n2_ n3_; clear hb hbox hg; have hcz27_0 : w26.cell? ⟨gb239, 0, none⟩ = some (.slice A0_0 l0_0.length c0_0) := (blk_cell BK239.out 0).trans rfl; have hcz27_1 : w26.cell? ⟨gb239, 1, none⟩ = some (.slice A0_1 l0_1.length c0_1) := (blk_cell BK239.out 1).trans rfl; have hfz27_0 := blk_frozen BK239.out 0; have hfz27_1 := blk_frozen BK239.out 1) | ((with_reducible refine gate_callee (f := 15) rfl ?_); refine goesL_ (some 27) rfl rfl Try.func15 (by kernel_rfl) rfl #[.agg #[.slice A0_0 l0_0.length c0_0, .slice A0_1 l0_1.length c0_1], .int .i64 1048576] rfl (by (try simp only [List.map_toArray, List.map_cons, List.map_nil]); first | done | rfl | (simp only [List.length_drop, List.length_take]; rfl)) ?_; (with_reducible refine (laws_szMap.calls _ _ l0_0 _ _ l0_1 1048576 t240 _ ?side1 ?side2 ?side3 ?side4 A7.out).mono ?_); (case side1 => repeat (first | exact (Kd.C_below HR0_0.out HB.out) | (with_reducible refine Kd.C_alloc ?_ _))); (case side2 => exact HC0_0.out); (case side3 => repeat (first | exact (Kd.C_below HR0_1.out HB.out) | (with_reducible refine Kd.C_alloc ?_ _))); (case side4 => exact HC0_1.out); rintro e w28 ⟨rfl, hb⟩; refine ⟨_, rfl, ?_⟩; have n0_ := Aside0.mk (blk_below (g := gb239) (o := .cells #[.slice A0_0 l0_0.length c0_0, .slice A0_1 l0_1.length c0_1] 24 (0, 0)) (by (with_reducible repeat refine blk_alloc ?_ _); exact BK239.out) hb); have n1_ := Aside0.mk (below_step (by repeat (first | (with_reducible first | exact HB.out | apply below_alloc | apply pw_below_drewN | apply below_drew1 | refine below_set ?_ GE239.out) | exact HB.out)) hb); clear BK239; clear HB; have BK239 := n0_; have HB := n1_; clear n0_ n1_; (try clear hb); (try clear hb2); (try clear hk); (try clear hi)) | ((with_reducible refine gate_callee (f := 16) rfl ?_); refine goesL_ (some 32) rfl rfl Try.func16 (by kernel_rfl) rfl #[.slice A2 l2.length c2, .int .i64 t240] rfl (by (try simp only [List.map_toArray, List.map_cons, List.map_nil]); first | done | rfl | (simp only [List.length_drop, List.length_take]; rfl)) ?_; (with_reducible refine (laws_szIntSS.calls k _ _ l2 t240 t241 _ ?side1 ?side2 A12.out).mono ?_); (case side1 => repeat (first | exact (Kd.C_below HR2.out HB.out) | (with_reducible refine Kd.C_alloc ?_ _))); (case side2 => exact HC2.out); rintro e w' ⟨rfl, ⟨nd, rfl⟩⟩; refine ⟨_, rfl, ?_⟩; (try (rw [drewN_self w28]; generalize hq_ : World.drewN w28 _ = w28; have n0_ : Aside0 (w28.heap[gb239]? = some (.cells #[.slice A0_0 l0_0.length c0_0, .slice A0_1 l0_1.length c0_1] 24 (0, 0))) := ⟨by rw [← hq_]; exact (by (with_reducible repeat refine blk_alloc ?_ _); exact BK239.out)⟩; have n1_ : Aside0 (Below w.heap.size w w28) := ⟨by rw [← hq_]; exact (by repeat (first | (with_reducible first | exact HB.out | apply below_alloc | apply pw_below_drewN | apply below_drew1 | refine below_set ?_ GE239.out) | exact HB.out))⟩; clear BK239 HB hq_; have BK239 := n0_; have HB := n1_; clear n0_ n1_)); have hcz29_0 : w28.cell? ⟨gb239, 0, none⟩ = some (.slice A0_0 l0_0.length c0_0) := (blk_cell BK239.out 0).trans rfl; have hcz29_1 : w28.cell? ⟨gb239, 1, none⟩ = some (.slice A0_1 l0_1.length c0_1) := (blk_cell BK239.out 1).trans rfl; have hfz29_0 := blk_frozen BK239.out 0; have hfz29_1 := blk_frozen BK239.out 1) | ((with_reducible refine gate_callee (f := 18) rfl ?_); refine goesL_ (some 37) rfl rfl Try.func18 (by kernel_rfl) rfl #[.agg #[.slice A0_0 l0_0.length c0_0, .slice A0_1 l0_1.length c0_1]] rfl (by (try simp only [List.map_toArray, List.map_cons, List.map_nil]); first | done | rfl | (simp only [List.length_drop, List.length_take]; rfl)) ?_; (with_reducible refine (laws_toMap.calls k _ _ l0_0 _ _ l0_1 t242 t245 _ ?side1 ?side2 ?side3 ?side4 A17.out).mono ?_); (case side1 => repeat (first | exact (Kd.C_below HR0_0.out HB.out) | (with_reducible refine Kd.C_alloc ?_ _))); (case side2 => exact HC0_0.out); (case side3 => repeat (first | exact (Kd.C_below HR0_1.out HB.out) | (with_reducible refine Kd.C_alloc ?_ _))); (case side4 => exact HC0_1.out); rintro e w30 ⟨v243, v246, rfl, ho0, ho1, hb⟩; refine ⟨_, rfl, ?_⟩; have n0_ := Aside0.mk (Kd.R_lower ho0 (below_size (by repeat (first | (with_reducible first | exact HB.out | apply below_alloc | apply pw_below_drewN | apply below_drew1 | refine below_set ?_ GE239.out) | exact HB.out)))); have n1_ := Aside0.mk (Kd.R_lower ho1 (below_size (by repeat (first | (with_reducible first | exact HB.out | apply below_alloc | apply pw_below_drewN | apply below_drew1 | refine below_set ?_ GE239.out) | exact HB.out)))); have n2_ := Aside0.mk (blk_below (g := gb239) (o := .cells #[.slice A0_0 l0_0.length c0_0, .slice A0_1 l0_1.length c0_1] 24 (0, 0)) (by (with_reducible repeat refine blk_alloc ?_ _); exact BK239.out) hb); have n3_ := Aside0.mk (below_step (by repeat (first | (with_reducible first | exact HB.out | apply below_alloc | apply pw_below_drewN | apply below_drew1 | refine below_set ?_ GE239.out) | exact HB.out)) hb); clear BK239; clear HB; have HO244 := n0_; have HO247 := n1_; have BK239 := n2_; have HB := n3_; clear n0_ n1_ n2_ n3_; (try clear hb); (try clear ho0); (try clear ho1)) | ((with_reducible refine gate_callee (f := 19) rfl ?_); refine goesL_ (some 40) rfl rfl Try.func19 (by kernel_rfl) rfl #[.slice A2 l2.length c2] rfl (by (try simp only [List.map_toArray, List.map_cons, List.map_nil]); first | done | rfl | (simp only [List.length_drop, List.length_take]; rfl)) ?_; (with_reducible refine (laws_toIntSS.calls k _ _ l2 t248 _ ?side1 ?side2 A18.out).mono ?_); (case side1 => repeat (first | exact (Kd.C_below HR2.out HB.out) | (with_reducible refine Kd.C_alloc ?_ _))); (case side2 => exact HC2.out); rintro e w31 ⟨v249, rfl, ho0, hb⟩; refine ⟨_, rfl, ?_⟩; have n0_ := Aside0.mk (Kd.R_below (by (with_reducible repeat apply Kd.R_alloc); exact HO244.out) hb); have n1_ := Aside0.mk (Kd.R_below (by (with_reducible repeat apply Kd.R_alloc); exact HO247.out) hb); have n2_ := Aside0.mk (Kd.S_lower (Kd.S_new' (Kd.S_new' ho0 (Kd.R_lt (by (with_reducible repeat apply Kd.R_alloc); exact HO244.out))) (Kd.R_lt (by (with_reducible repeat apply Kd.R_alloc); exact HO247.out))) (below_size (by repeat (first | (with_reducible first | exact HB.out | apply below_alloc | apply pw_below_drewN | apply below_drew1 | refine below_set ?_ GE239.out) | exact HB.out)))); have n3_ := Aside0.mk (blk_below (g := gb239) (o := .cells #[.slice A0_0 l0_0.length c0_0, .slice A0_1 l0_1.length c0_1] 24 (0, 0)) (by (with_reducible repeat refine blk_alloc ?_ _); exact BK239.out) hb); have n4_ := Aside0.mk (below_step (by repeat (first | (with_reducible first | exact HB.out | apply below_alloc | apply pw_below_drewN | apply below_drew1 | refine below_set ?_ GE239.out) | exact HB.out)) hb); clear HO244; clear HO247; clear BK239; clear HB; have HO244 := n0_; have HO247 := n1_; have HO250 := n2_; have BK239 := n3_; have HB := n4_; clear n0_ n1_ n2_ n3_ n4_; (try clear hb); (try clear ho0)) | ((with_reducible refine gate_callee (f := 29) rfl ?_); refine goesL_ (some 42) rfl rfl Try.func29 (by kernel_rfl) rfl #[.slice A3 l3.length c3] rfl (by (try simp only [List.map_toArray, List.map_cons, List.map_nil]); first | done | rfl | (simp only [List.length_drop, List.length_take]; rfl)) ?_; (with_reducible refine (laws_toIntS.calls k _ _ l3 t251 _ ?side1 ?side2 A19.out).mono ?_); (case side1 => repeat (first | exact (Kd.C_below HR3.out HB.out) | (with_reducible refine Kd.C_alloc ?_ _))); (case side2 => exact HC3.out); rintro e w32 ⟨v252, rfl, ho0, hb⟩; refine ⟨_, rfl, ?_⟩; have n0_ := Aside0.mk (Kd.R_elder' (by (with_reducible repeat apply Kd.R_alloc); exact HO244.out) (Kd.R_base ho0) hb); have n1_ := Aside0.mk (Kd.R_elder' (by (with_reducible repeat apply Kd.R_alloc); exact HO247.out) (Kd.R_base ho0) hb); have n2_ := Aside0.mk (Kd.S_elder' (by (with_reducible repeat apply Kd.S_alloc); exact HO250.out) (Kd.R_base ho0) hb); have n3_ := Aside0.mk (Kd.R_lower (Kd.R_new' (Kd.R_new' ho0 (Kd.R_lt (by (with_reducible repeat apply Kd.R_alloc); exact HO244.out))) (Kd.R_lt (by (with_reducible repeat apply Kd.R_alloc); exact HO247.out))) (below_size (by repeat (first | (with_reducible first | exact HB.out | apply below_alloc | apply pw_below_drewN | apply below_drew1 | refine below_set ?_ GE239.out) | exact HB.out)))); have n4_ := Aside0.mk (blk_below (g := gb239) (o := .cells #[.slice A0_0 l0_0.length c0_0, .slice A0_1 l0_1.length c0_1] 24 (0, 0)) (by (with_reducible repeat refine blk_alloc ?_ _); exact BK239.out) hb); have n5_ := Aside0.mk (below_step (by repeat (first | (with_reducible first | exact HB.out | apply below_alloc | apply pw_below_drewN | apply below_drew1 | refine below_set ?_ GE239.out) | exact HB.out)) hb); clear HO244; clear HO247; clear HO250; clear BK239; clear HB; have HO244 := n0_; have HO247 := n1_; have HO250 := n2_; have HO253 := n3_; have BK239 := n4_; have HB := n5_; clear n0_ n1_ n2_ n3_ n4_ n5_; (try clear hb); (try clear ho0); obtain ⟨Ao33, co33, eo33⟩ := Kd.R_slice HO244.out; subst eo33; obtain ⟨Ao34, co34, eo34⟩ := Kd.R_slice HO247.out; subst eo34; obtain ⟨Ao35, co35, eo35⟩ := Kd.S_slice HO250.out; subst eo35; obtain ⟨Ao36, co36, eo36⟩ := Kd.R_slice HO253.out; subst eo36) | ((with_reducible refine gate_callee (f := 28) rfl ?_); refine goesL_ (some 43) rfl rfl Try.func28 (by kernel_rfl) rfl #[.agg #[.slice Ao33 t242.length co33, .slice Ao34 t245.length co34], .int .i64 a1, .slice Ao35 t248.length co35, .slice Ao36 t251.length co36] rfl (by (try simp only [List.map_toArray, List.map_cons, List.map_nil]); first | done | rfl | (simp only [List.length_drop, List.length_take]; rfl)) ?_; (with_reducible refine (spec_CoverShift.calls k _ _ t242 _ _ t245 a1 _ _ t248 _ _ t251 t254 t257 _ ?side1 ?side2 ?side3 ?side4 ?side5 ?side6 ?side7 ?side8 A20.out).mono ?_); (case side1 => repeat (first | exact (Kd.R_reads' HO244.out).2.2 | (with_reducible refine Kd.C_alloc ?_ _))); (case side2 => exact (Kd.R_reads' HO244.out).2.1); (case side3 => repeat (first | exact (Kd.R_reads' HO247.out).2.2 | (with_reducible refine Kd.C_alloc ?_ _))); (case side4 => exact (Kd.R_reads' HO247.out).2.1); (case side5 => repeat (first | exact (Kd.S_reads' HO250.out).2.2 | (with_reducible refine Kd.C_alloc ?_ _))); (case side6 => exact (Kd.S_reads' HO250.out).2.1); (case side7 => repeat (first | exact (Kd.R_reads' HO253.out).2.2 | (with_reducible refine Kd.C_alloc ?_ _))); (case side8 => exact (Kd.R_reads' HO253.out).2.1); rintro e w37 ⟨v255, rfl, ho0, hb⟩; refine ⟨_, rfl, ?_⟩; have n0_ := Aside0.mk (Kd.R_elder' (by (with_reducible repeat apply Kd.R_alloc); exact HO244.out) (Kd.R_base ho0) hb); have n1_ := Aside0.mk (Kd.R_elder' (by (with_reducible repeat apply Kd.R_alloc); exact HO247.out) (Kd.R_base ho0) hb); have n2_ := Aside0.mk (Kd.S_elder' (by (with_reducible repeat apply Kd.S_alloc); exact HO250.out) (Kd.R_base ho0) hb); have n3_ := Aside0.mk (Kd.R_elder' (by (with_reducible repeat apply Kd.R_alloc); exact HO253.out) (Kd.R_base ho0) hb); have n4_ := Aside0.mk (Kd.R_lower (Kd.R_new' (Kd.R_new' (Kd.R_new' ho0 (Kd.R_lt (by (with_reducible repeat apply Kd.R_alloc); exact HO244.out))) (Kd.R_lt (by (with_reducible repeat apply Kd.R_alloc); exact HO247.out))) (Kd.R_lt (by (with_reducible repeat apply Kd.R_alloc); exact HO253.out))) (below_size (by repeat (first | (with_reducible first | exact HB.out | apply below_alloc | apply pw_below_drewN | apply below_drew1 | refine below_set ?_ GE239.out) | exact HB.out)))); have n5_ := Aside0.mk (blk_below (g := gb239) (o := .cells #[.slice A0_0 l0_0.length c0_0, .slice A0_1 l0_1.length c0_1] 24 (0, 0)) (by (with_reducible repeat refine blk_alloc ?_ _); exact BK239.out) hb); have n6_ := Aside0.mk (below_step (by repeat (first | (with_reducible first | exact HB.out | apply below_alloc | apply pw_below_drewN | apply below_drew1 | refine below_set ?_ GE239.out) | exact HB.out)) hb); clear HO244; clear HO247; clear HO250; clear HO253; clear BK239; clear HB; have HO244 := n0_; have HO247 := n1_; have HO250 := n2_; have HO253 := n3_; have HO256 := n4_; have BK239 := n5_; have HB := n6_; clear n0_ n1_ n2_ n3_ n4_ n5_ n6_; (try clear hb); (try clear ho0); have hcz38_0 : w37.cell? ⟨gb239, 0, none⟩ = some (.slice A0_0 l0_0.length c0_0) := (blk_cell BK239.out 0).trans rfl; have hcz38_1 : w37.cell? ⟨gb239, 1, none⟩ = some (.slice A0_1 l0_1.length c0_1) := (blk_cell BK239.out 1).trans rfl; have hfz38_0 := blk_frozen BK239.out 0; have hfz38_1 := blk_frozen BK239.out 1) | ((with_reducible refine gate_callee (f := 18) rfl ?_); refine goesL_ (some 47) rfl rfl Try.func18 (by kernel_rfl) rfl #[.agg #[.slice A0_0 l0_0.length c0_0, .slice A0_1 l0_1.length c0_1]] rfl (by (try simp only [List.map_toArray, List.map_cons, List.map_nil]); first | done | rfl | (simp only [List.length_drop, List.length_take]; rfl)) ?_; (with_reducible refine (laws_toMap.calls k _ _ l0_0 _ _ l0_1 t258 t261 _ ?side1 ?side2 ?side3 ?side4 A21.out).mono ?_); (case side1 => repeat (first | exact (Kd.C_below HR0_0.out HB.out) | (with_reducible refine Kd.C_alloc ?_ _))); (case side2 => exact HC0_0.out); (case side3 => repeat (first | exact (Kd.C_below HR0_1.out HB.out) | (with_reducible refine Kd.C_alloc ?_ _))); (case side4 => exact HC0_1.out); rintro e w39 ⟨v259, v262, rfl, ho0, ho1, hb⟩; refine ⟨_, rfl, ?_⟩; have n0_ := Aside0.mk (Kd.R_mono (Kd.R_told (Kd.R_told (Kd.R_old (by (with_reducible repeat apply Kd.R_alloc); exact HO244.out) hb) (Kd.R_base ho0)) (Kd.R_base ho1)) (fun _ h_ => h_.1)); have n1_ := Aside0.mk (Kd.R_mono (Kd.R_told (Kd.R_told (Kd.R_old (by (with_reducible repeat apply Kd.R_alloc); exact HO247.out) hb) (Kd.R_base ho0)) (Kd.R_base ho1)) (fun _ h_ => h_.1)); have n2_ := Aside0.mk (Kd.S_mono (Kd.S_told (Kd.S_told (Kd.S_old (by (with_reducible repeat apply Kd.S_alloc); exact HO250.out) hb) (Kd.R_base ho0)) (Kd.R_base ho1)) (fun _ h_ => h_.1)); have n3_ := Aside0.mk (Kd.R_mono (Kd.R_told (Kd.R_told (Kd.R_old (by (with_reducible repeat apply Kd.R_alloc); exact HO253.out) hb) (Kd.R_base ho0)) (Kd.R_base ho1)) (fun _ h_ => h_.1)); have n4_ := Aside0.mk (Kd.R_mono (Kd.R_told (Kd.R_told (Kd.R_old (by (with_reducible repeat apply Kd.R_alloc); exact HO256.out) hb) (Kd.R_base ho0)) (Kd.R_base ho1)) (fun _ h_ => h_.1)); have n5_ := Aside0.mk (Kd.R_lower (Kd.R_new' (Kd.R_new' (Kd.R_new' (Kd.R_new' ho0 (Kd.R_lt (by (with_reducible repeat apply Kd.R_alloc); exact HO244.out))) (Kd.R_lt (by (with_reducible repeat apply Kd.R_alloc); exact HO247.out))) (Kd.R_lt (by (with_reducible repeat apply Kd.R_alloc); exact HO253.out))) (Kd.R_lt (by (with_reducible repeat apply Kd.R_alloc); exact HO256.out))) (below_size (by repeat (first | (with_reducible first | exact HB.out | apply below_alloc | apply pw_below_drewN | apply below_drew1 | refine below_set ?_ GE239.out) | exact HB.out)))); have n6_ := Aside0.mk (Kd.R_lower (Kd.R_new' (Kd.R_new' (Kd.R_new' (Kd.R_new' ho1 (Kd.R_lt (by (with_reducible repeat apply Kd.R_alloc); exact HO244.out))) (Kd.R_lt (by (with_reducible repeat apply Kd.R_alloc); exact HO247.out))) (Kd.R_lt (by (with_reducible repeat apply Kd.R_alloc); exact HO253.out))) (Kd.R_lt (by (with_reducible repeat apply Kd.R_alloc); exact HO256.out))) (below_size (by repeat (first | (with_reducible first | exact HB.out | apply below_alloc | apply pw_below_drewN | apply below_drew1 | refine below_set ?_ GE239.out) | exact HB.out)))); have n7_ := Aside0.mk (blk_below (g := gb239) (o := .cells #[.slice A0_0 l0_0.length c0_0, .slice A0_1 l0_1.length c0_1] 24 (0, 0)) (by (with_reducible repeat refine blk_alloc ?_ _); exact BK239.out) hb); have n8_ := Aside0.mk (below_step (by repeat (first | (with_reducible first | exact HB.out | apply below_alloc | apply pw_below_drewN | apply below_drew1 | refine below_set ?_ GE239.out) | exact HB.out)) hb); clear HO244; clear HO247; clear HO250; clear HO253; clear HO256; clear BK239; clear HB; have HO244 := n0_; have HO247 := n1_; have HO250 := n2_; have HO253 := n3_; have HO256 := n4_; have HO260 := n5_; have HO263 := n6_; have BK239 := n7_; have HB := n8_; clear n0_ n1_ n2_ n3_ n4_ n5_ n6_ n7_ n8_; (try clear hb); (try clear ho0); (try clear ho1)) | ((with_reducible refine gate_dst (N := 12) rfl ?_); refine box_event ?hg (N := 12) ?hd (cs := #[.slice none 0 0, .slice none 0 0]) (t := 29) ?hr ?_; (case hd => rfl); (case hg => rfl); (case hr => first | (go_simp; done) | (go_simp; rfl)); intro gb264 hg w40 hbox hb; have n0_ := Aside0.mk (Kd.R_below (by (with_reducible repeat apply Kd.R_alloc); exact HO244.out) hb); have n1_ := Aside0.mk (Kd.R_below (by (with_reducible repeat apply Kd.R_alloc); exact HO247.out) hb); have n2_ := Aside0.mk (Kd.S_below (by (with_reducible repeat apply Kd.S_alloc); exact HO250.out) hb); have n3_ := Aside0.mk (Kd.R_below (by (with_reducible repeat apply Kd.R_alloc); exact HO253.out) hb); have n4_ := Aside0.mk (Kd.R_below (by (with_reducible repeat apply Kd.R_alloc); exact HO256.out) hb); have n5_ := Aside0.mk (Kd.R_below (by (with_reducible repeat apply Kd.R_alloc); exact HO260.out) hb); have n6_ := Aside0.mk (Kd.R_below (by (with_reducible repeat apply Kd.R_alloc); exact HO263.out) hb); have n7_ := Aside0.mk (blk_below (g := gb239) (o := .cells #[.slice A0_0 l0_0.length c0_0, .slice A0_1 l0_1.length c0_1] 24 (0, 0)) (by (with_reducible repeat refine blk_alloc ?_ _); exact BK239.out) hb); have n8_ := Aside0.mk (below_step (by repeat (first | (with_reducible first | exact HB.out | apply below_alloc | apply pw_below_drewN | apply below_drew1 | refine below_set ?_ GE239.out) | exact HB.out)) hb); have n9_ := Aside0.mk (hbox); have n10_ := Aside0.mk ((by rw [hg]; exact (below_size (by repeat (first | (with_reducible first | exact HB.out | apply below_alloc | apply pw_below_drewN | apply below_drew1 | refine below_set ?_ GE239.out) | exact HB.out))) : w.heap.size ≤ gb264)); have n11_ := Aside0.mk ((by rw [hg]; exact (below_size (by repeat (first | (with_reducible first | exact HB.out | apply below_alloc | apply pw_below_drewN | apply below_drew1 | refine below_set ?_ GE239.out) | exact HB.out))) : w.heap.size ≤ gb264)); have n12_ := Aside0.mk ((by rw [hg]; exact Nat.ne_of_lt (blk_lt (g := gb239) (o := .cells #[.slice A0_0 l0_0.length c0_0, .slice A0_1 l0_1.length c0_1] 24 (0, 0)) (by (with_reducible repeat refine blk_alloc ?_ _); exact BK239.out)) : gb239 ≠ gb264)); have n13_ := Aside0.mk ((by rw [hg]; exact Nat.ne_of_gt (blk_lt (g := gb239) (o := .cells #[.slice A0_0 l0_0.length c0_0, .slice A0_1 l0_1.length c0_1] 24 (0, 0)) (by (with_reducible repeat refine blk_alloc ?_ _); exact BK239.out)) : gb264 ≠ gb239)); clear HO244; clear HO247; clear HO250; clear HO253; clear HO256; clear HO260; clear HO263; clear BK239; clear HB; have HO244 := n0_; have HO247 := n1_; have HO250 := n2_; have HO253 := n3_; have HO256 := n4_; have HO260 := n5_; have HO263 := n6_; have BK239 := n7_; have HB := n8_; have BK264 := n9_; have GW264 := n10_; have GE264 := n11_; have NB239_264 := n12_; have NB264_239 := n13_; clear n0_ n1_ n2_ n3_ n4_ n5_ n6_ n7_ n8_ n9_ n10_ n11_ n12_ n13_; clear hb hbox hg; obtain ⟨Ao41, co41, eo41⟩ := Kd.R_slice HO260.out; subst eo41; have hnb42 := NB264_239.out; have hnc42 := NB239_264.out; have hcz43_0 : w40.cell? ⟨gb264, 0, none⟩ = some (.slice none 0 0) := (blk_cell BK264.out 0).trans rfl; have hcz43_1 : w40.cell? ⟨gb264, 1, none⟩ = some (.slice none 0 0) := (blk_cell BK264.out 1).trans rfl; have hfz43_0 := blk_frozen BK264.out 0; have hfz43_1 := blk_frozen BK264.out 1; obtain ⟨Ao44, co44, eo44⟩ := Kd.R_slice HO263.out; subst eo44) | ((with_reducible refine gate_callee (f := 19) rfl ?_); refine goesL_ (some 49) rfl rfl Try.func19 (by kernel_rfl) rfl #[.slice A2 l2.length c2] rfl (by (try simp only [List.map_toArray, List.map_cons, List.map_nil]); first | done | rfl | (simp only [List.length_drop, List.length_take]; rfl)) ?_; (with_reducible refine (laws_toIntSS.calls k _ _ l2 t265 _ ?side1 ?side2 A22.out).mono ?_); (case side1 => exact Kd.C_below HR2.out (by repeat (first | (with_reducible first | exact HB.out | apply below_alloc | apply pw_below_drewN | apply below_drew1 | refine below_set ?_ GE239.out | refine below_set ?_ GE264.out) | exact HB.out))); (case side2 => exact HC2.out); rintro e w45 ⟨v266, rfl, ho0, hb⟩; refine ⟨_, rfl, ?_⟩; have n0_ := Aside0.mk (Kd.R_below (by (with_reducible repeat apply Kd.R_alloc); exact (Kd.R_mono (Kd.R_far (p := ⟨gb264, 1, none⟩) (Kd.R_far (p := ⟨gb264, 0, none⟩) (Kd.R_types HO244.out BK264.out (by decide)) (fun _ hk => hk.2) (.slice Ao41 t258.length co41)) (fun _ hk => hk.2) (.slice Ao44 t261.length co44)) (fun _ h_ => h_.1))) hb); have n1_ := Aside0.mk (Kd.R_below (by (with_reducible repeat apply Kd.R_alloc); exact (Kd.R_mono (Kd.R_far (p := ⟨gb264, 1, none⟩) (Kd.R_far (p := ⟨gb264, 0, none⟩) (Kd.R_types HO247.out BK264.out (by decide)) (fun _ hk => hk.2) (.slice Ao41 t258.length co41)) (fun _ hk => hk.2) (.slice Ao44 t261.length co44)) (fun _ h_ => h_.1))) hb); have n2_ := Aside0.mk (Kd.S_elder' (by (with_reducible repeat apply Kd.S_alloc); exact (Kd.S_mono (Kd.S_far (p := ⟨gb264, 1, none⟩) (Kd.S_far (p := ⟨gb264, 0, none⟩) (Kd.S_types HO250.out BK264.out (by decide)) (fun _ hk => hk.2) (.slice Ao41 t258.length co41)) (fun _ hk => hk.2) (.slice Ao44 t261.length co44)) (fun _ h_ => h_.1))) (Kd.S_base ho0) hb); have n3_ := Aside0.mk (Kd.R_below (by (with_reducible repeat apply Kd.R_alloc); exact (Kd.R_mono (Kd.R_far (p := ⟨gb264, 1, none⟩) (Kd.R_far (p := ⟨gb264, 0, none⟩) (Kd.R_types HO253.out BK264.out (by decide)) (fun _ hk => hk.2) (.slice Ao41 t258.length co41)) (fun _ hk => hk.2) (.slice Ao44 t261.length co44)) (fun _ h_ => h_.1))) hb); have n4_ := Aside0.mk (Kd.R_below (by (with_reducible repeat apply Kd.R_alloc); exact (Kd.R_mono (Kd.R_far (p := ⟨gb264, 1, none⟩) (Kd.R_far (p := ⟨gb264, 0, none⟩) (Kd.R_types HO256.out BK264.out (by decide)) (fun _ hk => hk.2) (.slice Ao41 t258.length co41)) (fun _ hk => hk.2) (.slice Ao44 t261.length co44)) (fun _ h_ => h_.1))) hb); have n5_ := Aside0.mk (Kd.R_below (by (with_reducible repeat apply Kd.R_alloc); exact (Kd.R_mono (Kd.R_far (p := ⟨gb264, 1, none⟩) (Kd.R_far (p := ⟨gb264, 0, none⟩) (Kd.R_types HO260.out BK264.out (by decide)) (fun _ hk => hk.2) (.slice Ao41 t258.length co41)) (fun _ hk => hk.2) (.slice Ao44 t261.length co44)) (fun _ h_ => h_.1))) hb); have n6_ := Aside0.mk (Kd.R_below (by (with_reducible repeat apply Kd.R_alloc); exact (Kd.R_mono (Kd.R_far (p := ⟨gb264, 1, none⟩) (Kd.R_far (p := ⟨gb264, 0, none⟩) (Kd.R_types HO263.out BK264.out (by decide)) (fun _ hk => hk.2) (.slice Ao41 t258.length co41)) (fun _ hk => hk.2) (.slice Ao44 t261.length co44)) (fun _ h_ => h_.1))) hb); have n7_ := Aside0.mk (Kd.S_lower (Kd.S_new' (Kd.S_new' (Kd.S_new' (Kd.S_new' (Kd.S_new' (Kd.S_new' (Kd.S_new' ho0 (Kd.R_lt (by (with_reducible repeat apply Kd.R_alloc); exact (Kd.R_mono (Kd.R_far (p := ⟨gb264, 1, none⟩) (Kd.R_far (p := ⟨gb264, 0, none⟩) (Kd.R_types HO244.out BK264.out (by decide)) (fun _ hk => hk.2) (.slice Ao41 t258.length co41)) (fun _ hk => hk.2) (.slice Ao44 t261.length co44)) (fun _ h_ => h_.1))))) (Kd.R_lt (by (with_reducible repeat apply Kd.R_alloc); exact (Kd.R_mono (Kd.R_far (p := ⟨gb264, 1, none⟩) (Kd.R_far (p := ⟨gb264, 0, none⟩) (Kd.R_types HO247.out BK264.out (by decide)) (fun _ hk => hk.2) (.slice Ao41 t258.length co41)) (fun _ hk => hk.2) (.slice Ao44 t261.length co44)) (fun _ h_ => h_.1))))) (Kd.S_lt (by (with_reducible repeat apply Kd.S_alloc); exact (Kd.S_mono (Kd.S_far (p := ⟨gb264, 1, none⟩) (Kd.S_far (p := ⟨gb264, 0, none⟩) (Kd.S_types HO250.out BK264.out (by decide)) (fun _ hk => hk.2) (.slice Ao41 t258.length co41)) (fun _ hk => hk.2) (.slice Ao44 t261.length co44)) (fun _ h_ => h_.1))))) (Kd.R_lt (by (with_reducible repeat apply Kd.R_alloc); exact (Kd.R_mono (Kd.R_far (p := ⟨gb264, 1, none⟩) (Kd.R_far (p := ⟨gb264, 0, none⟩) (Kd.R_types HO253.out BK264.out (by decide)) (fun _ hk => hk.2) (.slice Ao41 t258.length co41)) (fun _ hk => hk.2) (.slice Ao44 t261.length co44)) (fun _ h_ => h_.1))))) (Kd.R_lt (by (with_reducible repeat apply Kd.R_alloc); exact (Kd.R_mono (Kd.R_far (p := ⟨gb264, 1, none⟩) (Kd.R_far (p := ⟨gb264, 0, none⟩) (Kd.R_types HO256.out BK264.out (by decide)) (fun _ hk => hk.2) (.slice Ao41 t258.length co41)) (fun _ hk => hk.2) (.slice Ao44 t261.length co44)) (fun _ h_ => h_.1))))) (Kd.R_lt (by (with_reducible repeat apply Kd.R_alloc); exact (Kd.R_mono (Kd.R_far (p := ⟨gb264, 1, none⟩) (Kd.R_far (p := ⟨gb264, 0, none⟩) (Kd.R_types HO260.out BK264.out (by decide)) (fun _ hk => hk.2) (.slice Ao41 t258.length co41)) (fun _ hk => hk.2) (.slice Ao44 t261.length co44)) (fun _ h_ => h_.1))))) (Kd.R_lt (by (with_reducible repeat apply Kd.R_alloc); exact (Kd.R_mono (Kd.R_far (p := ⟨gb264, 1, none⟩) (Kd.R_far (p := ⟨gb264, 0, none⟩) (Kd.R_types HO263.out BK264.out (by decide)) (fun _ hk => hk.2) (.slice Ao41 t258.length co41)) (fun _ hk => hk.2) (.slice Ao44 t261.length co44)) (fun _ h_ => h_.1))))) (below_size (by repeat (first | (with_reducible first | exact HB.out | apply below_alloc | apply pw_below_drewN | apply below_drew1 | refine below_set ?_ GE239.out | refine below_set ?_ GE264.out) | exact HB.out)))); have n8_ := Aside0.mk (blk_below (g := gb239) (o := .cells #[.slice A0_0 l0_0.length c0_0, .slice A0_1 l0_1.length c0_1] 24 (0, 0)) (by (with_reducible repeat refine blk_alloc ?_ _); refine blk_far ?_ NB239_264.out _; (with_reducible repeat refine blk_alloc ?_ _); refine blk_far ?_ NB239_264.out _; (with_reducible repeat refine blk_alloc ?_ _); exact BK239.out) hb); have n9_ := Aside0.mk (blk_below (g := gb264) (o := .cells #[.slice Ao41 t258.length co41, .slice Ao44 t261.length co44] 29 (0, 0)) (by (with_reducible repeat refine blk_alloc ?_ _); refine blk_put (cs := #[.slice Ao41 t258.length co41, .slice none 0 0]) ?_ 1 _ rfl; (with_reducible repeat refine blk_alloc ?_ _); refine blk_put (cs := #[.slice none 0 0, .slice none 0 0]) ?_ 0 _ rfl; (with_reducible repeat refine blk_alloc ?_ _); exact BK264.out) hb); have n10_ := Aside0.mk (below_step (by repeat (first | (with_reducible first | exact HB.out | apply below_alloc | apply pw_below_drewN | apply below_drew1 | refine below_set ?_ GE239.out | refine below_set ?_ GE264.out) | exact HB.out)) hb); clear HO244; clear HO247; clear HO250; clear HO253; clear HO256; clear HO260; clear HO263; clear BK239; clear BK264; clear HB; have HO244 := n0_; have HO247 := n1_; have HO250 := n2_; have HO253 := n3_; have HO256 := n4_; have HO260 := n5_; have HO263 := n6_; have HO267 := n7_; have BK239 := n8_; have BK264 := n9_; have HB := n10_; clear n0_ n1_ n2_ n3_ n4_ n5_ n6_ n7_ n8_ n9_ n10_; (try clear hb); (try clear ho0)) | ((with_reducible refine gate_callee (f := 29) rfl ?_); refine goesL_ (some 51) rfl rfl Try.func29 (by kernel_rfl) rfl #[.slice A3 l3.length c3] rfl (by (try simp only [List.map_toArray, List.map_cons, List.map_nil]); first | done | rfl | (simp only [List.length_drop, List.length_take]; rfl)) ?_; (with_reducible refine (laws_toIntS.calls k _ _ l3 t268 _ ?side1 ?side2 A23.out).mono ?_); (case side1 => repeat (first | exact (Kd.C_below HR3.out HB.out) | (with_reducible refine Kd.C_alloc ?_ _))); (case side2 => exact HC3.out); rintro e w46 ⟨v269, rfl, ho0, hb⟩; refine ⟨_, rfl, ?_⟩; have n0_ := Aside0.mk (Kd.R_elder' (by (with_reducible repeat apply Kd.R_alloc); exact HO244.out) (Kd.R_base ho0) hb); have n1_ := Aside0.mk (Kd.R_elder' (by (with_reducible repeat apply Kd.R_alloc); exact HO247.out) (Kd.R_base ho0) hb); have n2_ := Aside0.mk (Kd.S_elder' (by (with_reducible repeat apply Kd.S_alloc); exact HO250.out) (Kd.R_base ho0) hb); have n3_ := Aside0.mk (Kd.R_elder' (by (with_reducible repeat apply Kd.R_alloc); exact HO253.out) (Kd.R_base ho0) hb); have n4_ := Aside0.mk (Kd.R_elder' (by (with_reducible repeat apply Kd.R_alloc); exact HO256.out) (Kd.R_base ho0) hb); have n5_ := Aside0.mk (Kd.R_elder' (by (with_reducible repeat apply Kd.R_alloc); exact HO260.out) (Kd.R_base ho0) hb); have n6_ := Aside0.mk (Kd.R_elder' (by (with_reducible repeat apply Kd.R_alloc); exact HO263.out) (Kd.R_base ho0) hb); have n7_ := Aside0.mk (Kd.S_elder' (by (with_reducible repeat apply Kd.S_alloc); exact HO267.out) (Kd.R_base ho0) hb); have n8_ := Aside0.mk (Kd.R_lower (Kd.R_new' (Kd.R_new' (Kd.R_new' (Kd.R_new' (Kd.R_new' (Kd.R_new' ho0 (Kd.R_lt (by (with_reducible repeat apply Kd.R_alloc); exact HO244.out))) (Kd.R_lt (by (with_reducible repeat apply Kd.R_alloc); exact HO247.out))) (Kd.R_lt (by (with_reducible repeat apply Kd.R_alloc); exact HO253.out))) (Kd.R_lt (by (with_reducible repeat apply Kd.R_alloc); exact HO256.out))) (Kd.R_lt (by (with_reducible repeat apply Kd.R_alloc); exact HO260.out))) (Kd.R_lt (by (with_reducible repeat apply Kd.R_alloc); exact HO263.out))) (below_size (by repeat (first | (with_reducible first | exact HB.out | apply below_alloc | apply pw_below_drewN | apply below_drew1 | refine below_set ?_ GE239.out | refine below_set ?_ GE264.out) | exact HB.out)))); have n9_ := Aside0.mk (blk_below (g := gb239) (o := .cells #[.slice A0_0 l0_0.length c0_0, .slice A0_1 l0_1.length c0_1] 24 (0, 0)) (by (with_reducible repeat refine blk_alloc ?_ _); exact BK239.out) hb); have n10_ := Aside0.mk (blk_below (g := gb264) (o := .cells #[.slice Ao41 t258.length co41, .slice Ao44 t261.length co44] 29 (0, 0)) (by (with_reducible repeat refine blk_alloc ?_ _); exact BK264.out) hb); have n11_ := Aside0.mk (below_step (by repeat (first | (with_reducible first | exact HB.out | apply below_alloc | apply pw_below_drewN | apply below_drew1 | refine below_set ?_ GE239.out | refine below_set ?_ GE264.out) | exact HB.out)) hb); clear HO244; clear HO247; clear HO250; clear HO253; clear HO256; clear HO260; clear HO263; clear HO267; clear BK239; clear BK264; clear HB; have HO244 := n0_; have HO247 := n1_; have HO250 := n2_; have HO253 := n3_; have HO256 := n4_; have HO260 := n5_; have HO263 := n6_; have HO267 := n7_; have HO270 := n8_; have BK239 := n9_; have BK264 := n10_; have HB := n11_; clear n0_ n1_ n2_ n3_ n4_ n5_ n6_ n7_ n8_ n9_ n10_ n11_; (try clear hb); (try clear ho0); have hcz47_0 : w46.cell? ⟨gb264, 0, none⟩ = some (.slice Ao41 t258.length co41) := (blk_cell BK264.out 0).trans rfl; have hcz47_1 : w46.cell? ⟨gb264, 1, none⟩ = some (.slice Ao44 t261.length co44) := (blk_cell BK264.out 1).trans rfl; have hfz47_0 := blk_frozen BK264.out 0; have hfz47_1 := blk_frozen BK264.out 1; obtain ⟨Ao48, co48, eo48⟩ := Kd.S_slice HO267.out; subst eo48; obtain ⟨Ao49, co49, eo49⟩ := Kd.R_slice HO270.out; subst eo49) | ((with_reducible refine gate_callee (f := 30) rfl ?_); refine goesL_ (some 57) rfl rfl Try.func30 (by kernel_rfl) rfl #[.agg #[.slice Ao41 t258.length co41, .slice Ao44 t261.length co44], .int .i64 a1, .slice Ao48 t265.length co48, .slice Ao49 t268.length co49] rfl (by (try simp only [List.map_toArray, List.map_cons, List.map_nil]); first | done | rfl | (simp only [List.length_drop, List.length_take]; rfl)) ?_; (with_reducible refine (impl_CoverShift.calls k _ _ t258 _ _ t261 a1 _ _ t265 _ _ t268 t271 t274 _ ?side1 ?side2 ?side3 ?side4 ?side5 ?side6 ?side7 ?side8 A24.out).mono ?_); (case side1 => repeat (first | exact (Kd.R_reads' HO260.out).2.2 | (with_reducible refine Kd.C_alloc ?_ _))); (case side2 => exact (Kd.R_reads' HO260.out).2.1); (case side3 => repeat (first | exact (Kd.R_reads' HO263.out).2.2 | (with_reducible refine Kd.C_alloc ?_ _))); (case side4 => exact (Kd.R_reads' HO263.out).2.1); (case side5 => repeat (first | exact (Kd.S_reads' HO267.out).2.2 | (with_reducible refine Kd.C_alloc ?_ _))); (case side6 => exact (Kd.S_reads' HO267.out).2.1); (case side7 => repeat (first | exact (Kd.R_reads' HO270.out).2.2 | (with_reducible refine Kd.C_alloc ?_ _))); (case side8 => exact (Kd.R_reads' HO270.out).2.1); rintro e w50 ⟨v272, rfl, ho0, hb⟩; refine ⟨_, rfl, ?_⟩; have n0_ := Aside0.mk (Kd.R_elder' (by (with_reducible repeat apply Kd.R_alloc); exact HO244.out) (Kd.R_base ho0) hb); have n1_ := Aside0.mk (Kd.R_elder' (by (with_reducible repeat apply Kd.R_alloc); exact HO247.out) (Kd.R_base ho0) hb); have n2_ := Aside0.mk (Kd.S_elder' (by (with_reducible repeat apply Kd.S_alloc); exact HO250.out) (Kd.R_base ho0) hb); have n3_ := Aside0.mk (Kd.R_elder' (by (with_reducible repeat apply Kd.R_alloc); exact HO253.out) (Kd.R_base ho0) hb); have n4_ := Aside0.mk (Kd.R_elder' (by (with_reducible repeat apply Kd.R_alloc); exact HO256.out) (Kd.R_base ho0) hb); have n5_ := Aside0.mk (Kd.R_elder' (by (with_reducible repeat apply Kd.R_alloc); exact HO260.out) (Kd.R_base ho0) hb); have n6_ := Aside0.mk (Kd.R_elder' (by (with_reducible repeat apply Kd.R_alloc); exact HO263.out) (Kd.R_base ho0) hb); have n7_ := Aside0.mk (Kd.S_elder' (by (with_reducible repeat apply Kd.S_alloc); exact HO267.out) (Kd.R_base ho0) hb); have n8_ := Aside0.mk (Kd.R_elder' (by (with_reducible repeat apply Kd.R_alloc); exact HO270.out) (Kd.R_base ho0) hb); have n9_ := Aside0.mk (Kd.R_lower (Kd.R_new' (Kd.R_new' (Kd.R_new' (Kd.R_new' (Kd.R_new' (Kd.R_new' (Kd.R_new' ho0 (Kd.R_lt (by (with_reducible repeat apply Kd.R_alloc); exact HO244.out))) (Kd.R_lt (by (with_reducible repeat apply Kd.R_alloc); exact HO247.out))) (Kd.R_lt (by (with_reducible repeat apply Kd.R_alloc); exact HO253.out))) (Kd.R_lt (by (with_reducible repeat apply Kd.R_alloc); exact HO256.out))) (Kd.R_lt (by (with_reducible repeat apply Kd.R_alloc); exact HO260.out))) (Kd.R_lt (by (with_reducible repeat apply Kd.R_alloc); exact HO263.out))) (Kd.R_lt (by (with_reducible repeat apply Kd.R_alloc); exact HO270.out))) (below_size (by repeat (first | (with_reducible first | exact HB.out | apply below_alloc | apply pw_below_drewN | apply below_drew1 | refine below_set ?_ GE239.out | refine below_set ?_ GE264.out) | exact HB.out)))); have n10_ := Aside0.mk (blk_below (g := gb239) (o := .cells #[.slice A0_0 l0_0.length c0_0, .slice A0_1 l0_1.length c0_1] 24 (0, 0)) (by (with_reducible repeat refine blk_alloc ?_ _); exact BK239.out) hb); have n11_ := Aside0.mk (blk_below (g := gb264) (o := .cells #[.slice Ao41 t258.length co41, .slice Ao44 t261.length co44] 29 (0, 0)) (by (with_reducible repeat refine blk_alloc ?_ _); exact BK264.out) hb); have n12_ := Aside0.mk (below_step (by repeat (first | (with_reducible first | exact HB.out | apply below_alloc | apply pw_below_drewN | apply below_drew1 | refine below_set ?_ GE239.out | refine below_set ?_ GE264.out) | exact HB.out)) hb); clear HO244; clear HO247; clear HO250; clear HO253; clear HO256; clear HO260; clear HO263; clear HO267; clear HO270; clear BK239; clear BK264; clear HB; have HO244 := n0_; have HO247 := n1_; have HO250 := n2_; have HO253 := n3_; have HO256 := n4_; have HO260 := n5_; have HO263 := n6_; have HO267 := n7_; have HO270 := n8_; have HO273 := n9_; have BK239 := n10_; have BK264 := n11_; have HB := n12_; clear n0_ n1_ n2_ n3_ n4_ n5_ n6_ n7_ n8_ n9_ n10_ n11_ n12_; (try clear hb); (try clear ho0)))
    (try simp only [Act.put, List.setIfInBounds_toArray, List.set_cons_zero, List.set_cons_succ])
    go_cut [68] (fun v68 wc => ∃ (kq : Nat) (x68_24 : Bool), v68 = .bool x68_24 ∧ Aside0 (laws_FnExactCoverShift.j0 kq a1 l2 l3 t254 t257 t265 t268 t271 t274 x68_24 l0_0 l0_1 t258 t261 = some r) ∧ Aside0 (kq ≤ k) ∧ Aside0 (Kd.R (Kd.int .i64) 3 wc w.heap.size (fun k_ => some k_ ≠ ((.slice Ao49 t268.length co49) : Value).ownBlock ∧ some k_ ≠ (v272 : Value).ownBlock ∧ some k_ ≠ ((.slice Ao41 t258.length co41) : Value).ownBlock ∧ some k_ ≠ ((.slice Ao44 t261.length co44) : Value).ownBlock) v255 t254) ∧ Aside0 (Kd.S (Kd.slice 3 (Kd.int .i64)) 22 wc w.heap.size (fun k_ => some k_ ≠ (v255 : Value).ownBlock ∧ some k_ ≠ ((.slice Ao49 t268.length co49) : Value).ownBlock ∧ some k_ ≠ (v272 : Value).ownBlock ∧ some k_ ≠ ((.slice Ao41 t258.length co41) : Value).ownBlock ∧ some k_ ≠ ((.slice Ao44 t261.length co44) : Value).ownBlock) (.slice Ao48 t265.length co48) t265) ∧ Aside0 (Kd.R (Kd.int .i64) 3 wc w.heap.size (fun k_ => some k_ ≠ (v255 : Value).ownBlock ∧ some k_ ≠ (v272 : Value).ownBlock ∧ some k_ ≠ ((.slice Ao41 t258.length co41) : Value).ownBlock ∧ some k_ ≠ ((.slice Ao44 t261.length co44) : Value).ownBlock) (.slice Ao49 t268.length co49) t268) ∧ Aside0 (Kd.R (Kd.int .i64) 3 wc w.heap.size (fun k_ => some k_ ≠ (v255 : Value).ownBlock ∧ some k_ ≠ ((.slice Ao49 t268.length co49) : Value).ownBlock ∧ some k_ ≠ ((.slice Ao41 t258.length co41) : Value).ownBlock ∧ some k_ ≠ ((.slice Ao44 t261.length co44) : Value).ownBlock) v272 t271) ∧ Aside0 (Kd.R (Kd.int .i64) 3 wc w.heap.size (fun k_ => some k_ ≠ (v255 : Value).ownBlock ∧ some k_ ≠ ((.slice Ao49 t268.length co49) : Value).ownBlock ∧ some k_ ≠ (v272 : Value).ownBlock ∧ some k_ ≠ ((.slice Ao44 t261.length co44) : Value).ownBlock) (.slice Ao41 t258.length co41) t258) ∧ Aside0 (Kd.R (Kd.int .i64) 3 wc w.heap.size (fun k_ => some k_ ≠ (v255 : Value).ownBlock ∧ some k_ ≠ ((.slice Ao49 t268.length co49) : Value).ownBlock ∧ some k_ ≠ (v272 : Value).ownBlock ∧ some k_ ≠ ((.slice Ao41 t258.length co41) : Value).ownBlock) (.slice Ao44 t261.length co44) t261) ∧ Aside0 (wc.heap[gb239]? = some (.cells #[(.slice A0_0 l0_0.length c0_0), (.slice A0_1 l0_1.length c0_1)] 24 (0, 0))) ∧ Aside0 (wc.heap[gb264]? = some (.cells #[(.slice Ao41 t258.length co41), (.slice Ao44 t261.length co44)] 29 (0, 0))) ∧ Aside0 (Below w.heap.size w wc))
    case first =>
     have H := HC25.out
     clear HC25
     replace H := Option.bind_eq_some_iff.mp H
     obtain ⟨t275, A510, H⟩ := H
     replace H : (if t275 = true then (laws_FnExactCoverShift.j0 k a1 l2 l3 t254 t257 t265 t268 t271 t274 (t274 != t257) l0_0 l0_1 t258 t261) else (laws_FnExactCoverShift.j0 k a1 l2 l3 t254 t257 t265 t268 t271 t274 true l0_0 l0_1 t258 t261)) = some r := H
     have A51 := Aside0.mk A510
     clear A510
     by_cases c52 : t275 = true
     ·subst c52
      have H1 : (laws_FnExactCoverShift.j0 k a1 l2 l3 t254 t257 t265 t268 t271 t274 (t274 != t257) l0_0 l0_1 t258 t261) = some r := by rw [if_pos rfl] at H; exact H
      clear H
      have H := H1
      clear H1
      have H' := Aside0.mk H
      clear H
      obtain ⟨Ao53, co53, eo53⟩ := Kd.R_slice HO273.out
      subst eo53
      obtain ⟨Ao54, co54, eo54⟩ := Kd.R_slice HO256.out
      subst eo54
      go_wp2_with (first | ((with_reducible refine gate_callee (f := 31) rfl ?_); refine goesL_ (some 62) rfl rfl Try.func31 (by kernel_rfl) rfl #[.slice Ao53 t271.length co53, .slice Ao54 t254.length co54] rfl (by (try simp only [List.map_toArray, List.map_cons, List.map_nil]); first | done | rfl | (simp only [List.length_drop, List.length_take]; rfl)) ?_; (with_reducible refine (laws_eqIntS.calls k _ _ t271 _ _ t254 true _ ?side1 ?side2 ?side3 ?side4 A51.out).mono ?_); (case side1 => repeat (first | exact (Kd.R_reads' HO273.out).2.2 | (with_reducible refine Kd.C_alloc ?_ _))); (case side2 => exact (Kd.R_reads' HO273.out).2.1); (case side3 => repeat (first | exact (Kd.R_reads' HO256.out).2.2 | (with_reducible refine Kd.C_alloc ?_ _))); (case side4 => exact (Kd.R_reads' HO256.out).2.1); rintro e w' ⟨rfl, ⟨nd, rfl⟩⟩; refine ⟨_, rfl, ?_⟩))
      go_meet
      case rel => exact ⟨_, ((t274 != t257)), (by first | rfl | (simp; done) | (simp [*]; done)), H', ⟨by first | omega | exact Nat.le_refl _⟩, ⟨by (with_reducible repeat (first | apply Kd.R_alloc | apply Kd.R_drewN | apply Kd.R_drew)); exact Kd.R_mono HO256.out (fun _ hk => ⟨hk.1.2, ⟨hk.2, ⟨hk.1.1.1.2, hk.1.1.2⟩⟩⟩)⟩, ⟨by (with_reducible repeat (first | apply Kd.S_alloc | apply Kd.S_drewN | apply Kd.S_drew)); exact Kd.S_mono HO267.out (fun _ hk => ⟨hk.1.1.1.1.2, ⟨hk.1.2, ⟨hk.2, ⟨hk.1.1.1.2, hk.1.1.2⟩⟩⟩⟩)⟩, ⟨by (with_reducible repeat (first | apply Kd.R_alloc | apply Kd.R_drewN | apply Kd.R_drew)); exact Kd.R_mono HO270.out (fun _ hk => ⟨hk.1.1.1.2, ⟨hk.2, ⟨hk.1.1.2, hk.1.2⟩⟩⟩)⟩, ⟨by (with_reducible repeat (first | apply Kd.R_alloc | apply Kd.R_drewN | apply Kd.R_drew)); exact Kd.R_mono HO273.out (fun _ hk => ⟨hk.1.1.1.2, ⟨hk.2, ⟨hk.1.1.2, hk.1.2⟩⟩⟩)⟩, ⟨by (with_reducible repeat (first | apply Kd.R_alloc | apply Kd.R_drewN | apply Kd.R_drew)); exact Kd.R_mono HO260.out (fun _ hk => ⟨hk.1.1.2, ⟨hk.1.2, ⟨hk.2, hk.1.1.1.1.1.1⟩⟩⟩)⟩, ⟨by (with_reducible repeat (first | apply Kd.R_alloc | apply Kd.R_drewN | apply Kd.R_drew)); exact Kd.R_mono HO263.out (fun _ hk => ⟨hk.1.1.2, ⟨hk.1.2, ⟨hk.2, hk.1.1.1.1.1.1⟩⟩⟩)⟩, ⟨by (with_reducible repeat (first | refine blk_drewN ?_ _ | refine blk_drew ?_ | refine blk_alloc ?_ _)); exact BK239.out⟩, ⟨by (with_reducible repeat (first | refine blk_drewN ?_ _ | refine blk_drew ?_ | refine blk_alloc ?_ _)); exact BK264.out⟩, ⟨by repeat (first | (with_reducible first | exact HB.out | apply below_alloc | apply pw_below_drewN | apply below_drew1 | refine below_set ?_ GE239.out | refine below_set ?_ GE264.out) | exact HB.out)⟩⟩
     ·replace c52 := Bool.eq_false_iff.mpr c52
      subst c52
      have H1 : (laws_FnExactCoverShift.j0 k a1 l2 l3 t254 t257 t265 t268 t271 t274 true l0_0 l0_1 t258 t261) = some r := by rw [if_neg (show ¬ (false = true) by decide)] at H; exact H
      clear H
      have H := H1
      clear H1
      have H' := Aside0.mk H
      clear H
      obtain ⟨Ao55, co55, eo55⟩ := Kd.R_slice HO273.out
      subst eo55
      obtain ⟨Ao56, co56, eo56⟩ := Kd.R_slice HO256.out
      subst eo56
      go_wp2_with (first | ((with_reducible refine gate_callee (f := 31) rfl ?_); refine goesL_ (some 62) rfl rfl Try.func31 (by kernel_rfl) rfl #[.slice Ao55 t271.length co55, .slice Ao56 t254.length co56] rfl (by (try simp only [List.map_toArray, List.map_cons, List.map_nil]); first | done | rfl | (simp only [List.length_drop, List.length_take]; rfl)) ?_; (with_reducible refine (laws_eqIntS.calls k _ _ t271 _ _ t254 false _ ?side1 ?side2 ?side3 ?side4 A51.out).mono ?_); (case side1 => repeat (first | exact (Kd.R_reads' HO273.out).2.2 | (with_reducible refine Kd.C_alloc ?_ _))); (case side2 => exact (Kd.R_reads' HO273.out).2.1); (case side3 => repeat (first | exact (Kd.R_reads' HO256.out).2.2 | (with_reducible refine Kd.C_alloc ?_ _))); (case side4 => exact (Kd.R_reads' HO256.out).2.1); rintro e w' ⟨rfl, ⟨nd, rfl⟩⟩; refine ⟨_, rfl, ?_⟩))
      go_meet
      case rel => exact ⟨_, (true), (by first | rfl | (simp; done) | (simp [*]; done)), H', ⟨by first | omega | exact Nat.le_refl _⟩, ⟨by (with_reducible repeat (first | apply Kd.R_alloc | apply Kd.R_drewN | apply Kd.R_drew)); exact Kd.R_mono HO256.out (fun _ hk => ⟨hk.1.2, ⟨hk.2, ⟨hk.1.1.1.2, hk.1.1.2⟩⟩⟩)⟩, ⟨by (with_reducible repeat (first | apply Kd.S_alloc | apply Kd.S_drewN | apply Kd.S_drew)); exact Kd.S_mono HO267.out (fun _ hk => ⟨hk.1.1.1.1.2, ⟨hk.1.2, ⟨hk.2, ⟨hk.1.1.1.2, hk.1.1.2⟩⟩⟩⟩)⟩, ⟨by (with_reducible repeat (first | apply Kd.R_alloc | apply Kd.R_drewN | apply Kd.R_drew)); exact Kd.R_mono HO270.out (fun _ hk => ⟨hk.1.1.1.2, ⟨hk.2, ⟨hk.1.1.2, hk.1.2⟩⟩⟩)⟩, ⟨by (with_reducible repeat (first | apply Kd.R_alloc | apply Kd.R_drewN | apply Kd.R_drew)); exact Kd.R_mono HO273.out (fun _ hk => ⟨hk.1.1.1.2, ⟨hk.2, ⟨hk.1.1.2, hk.1.2⟩⟩⟩)⟩, ⟨by (with_reducible repeat (first | apply Kd.R_alloc | apply Kd.R_drewN | apply Kd.R_drew)); exact Kd.R_mono HO260.out (fun _ hk => ⟨hk.1.1.2, ⟨hk.1.2, ⟨hk.2, hk.1.1.1.1.1.1⟩⟩⟩)⟩, ⟨by (with_reducible repeat (first | apply Kd.R_alloc | apply Kd.R_drewN | apply Kd.R_drew)); exact Kd.R_mono HO263.out (fun _ hk => ⟨hk.1.1.2, ⟨hk.1.2, ⟨hk.2, hk.1.1.1.1.1.1⟩⟩⟩)⟩, ⟨by (with_reducible repeat (first | refine blk_drewN ?_ _ | refine blk_drew ?_ | refine blk_alloc ?_ _)); exact BK239.out⟩, ⟨by (with_reducible repeat (first | refine blk_drewN ?_ _ | refine blk_drew ?_ | refine blk_alloc ?_ _)); exact BK264.out⟩, ⟨by repeat (first | (with_reducible first | exact HB.out | apply below_alloc | apply pw_below_drewN | apply below_drew1 | refine below_set ?_ GE239.out | refine below_set ?_ GE264.out) | exact HB.out)⟩⟩
    case rest =>
     clear HC25
     try clear c1
     try clear c2
     try clear p2
     try clear c3
     try clear c4
     try clear c5
     try clear c5b0
     try clear c5b1
     try clear c8
     try clear c8b0
     try clear c13
     try clear c13b0
     try clear c15
     try clear c16
     try clear c18
     try clear c19
     try clear c28
     try clear c29
     try clear c30
     try clear c31
     try clear c42
     try clear c52
     try clear hcz10_0
     try clear hcz10_1
     try clear hcz15_0
     try clear hcz15_1
     try clear hcz27_0
     try clear hcz27_1
     try clear hcz29_0
     try clear hcz29_1
     try clear hcz38_0
     try clear hcz38_1
     try clear hcz43_0
     try clear hcz43_1
     try clear hcz47_0
     try clear hcz47_1
     try clear hfz10_0
     try clear hfz10_1
     try clear hfz15_0
     try clear hfz15_1
     try clear hfz27_0
     try clear hfz27_1
     try clear hfz29_0
     try clear hfz29_1
     try clear hfz38_0
     try clear hfz38_1
     try clear hfz43_0
     try clear hfz43_1
     try clear hfz47_0
     try clear hfz47_1
     obtain ⟨kq, x68_24, rfl, HA, HJ24, HO_10, HO_13, HO_14, HO_15, HPa, HPb, BK239, BK264, HB⟩ := hcut
     cases kq with
     | zero => exact absurd HA.out (by simp [laws_FnExactCoverShift.j0])
     | succ kj24 =>
      have H := HA.out
      clear HA
      simp only [laws_FnExactCoverShift.j0] at H
      by_cases c57 : x68_24 = true
      ·subst c57
       have H1 : (some false) = some r := by rw [if_pos rfl] at H; exact H
       clear H
       have H := H1
       clear H1
       obtain rfl := Option.some.inj H
       go_wp2
       go_ret
       exact ⟨by first | rfl | (simp [errW_none, errW_some] <;> rfl) | (simp [*, errW_none, errW_some] <;> rfl), by repeat (first | (with_reducible first | exact HB.out | apply below_alloc | apply pw_below_drewN | apply below_drew1 | refine below_set ?_ GE239.out | refine below_set ?_ GE264.out) | exact HB.out)⟩
      ·replace c57 := Bool.eq_false_iff.mpr c57
       subst c57
       have H1 : ((laws_toMap.f kj24 l0_0 l0_1).bind fun bt276 => ((laws_eqMap.f kj24 t258 t261 bt276.1 bt276.2).bind fun t282 => (if t282 = true then ((laws_toIntSS.f kj24 l2).bind fun t283 => ((laws_eqIntSS.f kj24 t265 t283).bind fun t286 => (if t286 = true then ((laws_toIntS.f kj24 l3).bind fun t287 => ((laws_eqIntS.f kj24 t268 t287).bind fun t290 => (if t290 = true then ((laws_markMap.f kj24 t258 t261 1).bind fun bt291 => ((laws_markIntSS.f kj24 t265 bt291.1).bind fun t294 => ((laws_markIntS.f kj24 t268 t294).bind fun bt295 => (if bt295.1 < 0 then (laws_FnExactCoverShift.j1 kj24 a1 l2 l3 t254 t257 t271 true l0_0 l0_1) else ((laws_eqIntS.f kj24 t271 t254).bind fun t297 => (if t297 = true then (laws_FnExactCoverShift.j1 kj24 a1 l2 l3 t254 t257 t271 (t274 != t257) l0_0 l0_1) else (laws_FnExactCoverShift.j1 kj24 a1 l2 l3 t254 t257 t271 true l0_0 l0_1))))))) else (some false)))) else (some false)))) else (some false)))) = some r := by rw [if_neg (show ¬ (false = true) by decide)] at H; exact H
       clear H
       have H := H1
       clear H1
       replace H := Option.bind_eq_some_iff.mp H
       obtain ⟨⟨t276, t279⟩, A580, H⟩ := H
       replace H : ((laws_eqMap.f kj24 t258 t261 t276 t279).bind fun t282 => (if t282 = true then ((laws_toIntSS.f kj24 l2).bind fun t283 => ((laws_eqIntSS.f kj24 t265 t283).bind fun t286 => (if t286 = true then ((laws_toIntS.f kj24 l3).bind fun t287 => ((laws_eqIntS.f kj24 t268 t287).bind fun t290 => (if t290 = true then ((laws_markMap.f kj24 t258 t261 1).bind fun bt291 => ((laws_markIntSS.f kj24 t265 bt291.1).bind fun t294 => ((laws_markIntS.f kj24 t268 t294).bind fun bt295 => (if bt295.1 < 0 then (laws_FnExactCoverShift.j1 kj24 a1 l2 l3 t254 t257 t271 true l0_0 l0_1) else ((laws_eqIntS.f kj24 t271 t254).bind fun t297 => (if t297 = true then (laws_FnExactCoverShift.j1 kj24 a1 l2 l3 t254 t257 t271 (t274 != t257) l0_0 l0_1) else (laws_FnExactCoverShift.j1 kj24 a1 l2 l3 t254 t257 t271 true l0_0 l0_1))))))) else (some false)))) else (some false)))) else (some false))) = some r := H
       have A58 := Aside0.mk A580
       clear A580
       replace H := Option.bind_eq_some_iff.mp H
       obtain ⟨t282, A590, H⟩ := H
       replace H : (if t282 = true then ((laws_toIntSS.f kj24 l2).bind fun t283 => ((laws_eqIntSS.f kj24 t265 t283).bind fun t286 => (if t286 = true then ((laws_toIntS.f kj24 l3).bind fun t287 => ((laws_eqIntS.f kj24 t268 t287).bind fun t290 => (if t290 = true then ((laws_markMap.f kj24 t258 t261 1).bind fun bt291 => ((laws_markIntSS.f kj24 t265 bt291.1).bind fun t294 => ((laws_markIntS.f kj24 t268 t294).bind fun bt295 => (if bt295.1 < 0 then (laws_FnExactCoverShift.j1 kj24 a1 l2 l3 t254 t257 t271 true l0_0 l0_1) else ((laws_eqIntS.f kj24 t271 t254).bind fun t297 => (if t297 = true then (laws_FnExactCoverShift.j1 kj24 a1 l2 l3 t254 t257 t271 (t274 != t257) l0_0 l0_1) else (laws_FnExactCoverShift.j1 kj24 a1 l2 l3 t254 t257 t271 true l0_0 l0_1))))))) else (some false)))) else (some false)))) else (some false)) = some r := H
       have A59 := Aside0.mk A590
       clear A590
       by_cases c60 : t282 = true
       ·subst c60
        have H1 : ((laws_toIntSS.f kj24 l2).bind fun t283 => ((laws_eqIntSS.f kj24 t265 t283).bind fun t286 => (if t286 = true then ((laws_toIntS.f kj24 l3).bind fun t287 => ((laws_eqIntS.f kj24 t268 t287).bind fun t290 => (if t290 = true then ((laws_markMap.f kj24 t258 t261 1).bind fun bt291 => ((laws_markIntSS.f kj24 t265 bt291.1).bind fun t294 => ((laws_markIntS.f kj24 t268 t294).bind fun bt295 => (if bt295.1 < 0 then (laws_FnExactCoverShift.j1 kj24 a1 l2 l3 t254 t257 t271 true l0_0 l0_1) else ((laws_eqIntS.f kj24 t271 t254).bind fun t297 => (if t297 = true then (laws_FnExactCoverShift.j1 kj24 a1 l2 l3 t254 t257 t271 (t274 != t257) l0_0 l0_1) else (laws_FnExactCoverShift.j1 kj24 a1 l2 l3 t254 t257 t271 true l0_0 l0_1))))))) else (some false)))) else (some false)))) = some r := by rw [if_pos rfl] at H; exact H
        clear H
        have H := H1
        clear H1
        replace H := Option.bind_eq_some_iff.mp H
        obtain ⟨t283, A610, H⟩ := H
        replace H : ((laws_eqIntSS.f kj24 t265 t283).bind fun t286 => (if t286 = true then ((laws_toIntS.f kj24 l3).bind fun t287 => ((laws_eqIntS.f kj24 t268 t287).bind fun t290 => (if t290 = true then ((laws_markMap.f kj24 t258 t261 1).bind fun bt291 => ((laws_markIntSS.f kj24 t265 bt291.1).bind fun t294 => ((laws_markIntS.f kj24 t268 t294).bind fun bt295 => (if bt295.1 < 0 then (laws_FnExactCoverShift.j1 kj24 a1 l2 l3 t254 t257 t271 true l0_0 l0_1) else ((laws_eqIntS.f kj24 t271 t254).bind fun t297 => (if t297 = true then (laws_FnExactCoverShift.j1 kj24 a1 l2 l3 t254 t257 t271 (t274 != t257) l0_0 l0_1) else (laws_FnExactCoverShift.j1 kj24 a1 l2 l3 t254 t257 t271 true l0_0 l0_1))))))) else (some false)))) else (some false))) = some r := H
        have A61 := Aside0.mk A610
        clear A610
        replace H := Option.bind_eq_some_iff.mp H
        obtain ⟨t286, A620, H⟩ := H
        replace H : (if t286 = true then ((laws_toIntS.f kj24 l3).bind fun t287 => ((laws_eqIntS.f kj24 t268 t287).bind fun t290 => (if t290 = true then ((laws_markMap.f kj24 t258 t261 1).bind fun bt291 => ((laws_markIntSS.f kj24 t265 bt291.1).bind fun t294 => ((laws_markIntS.f kj24 t268 t294).bind fun bt295 => (if bt295.1 < 0 then (laws_FnExactCoverShift.j1 kj24 a1 l2 l3 t254 t257 t271 true l0_0 l0_1) else ((laws_eqIntS.f kj24 t271 t254).bind fun t297 => (if t297 = true then (laws_FnExactCoverShift.j1 kj24 a1 l2 l3 t254 t257 t271 (t274 != t257) l0_0 l0_1) else (laws_FnExactCoverShift.j1 kj24 a1 l2 l3 t254 t257 t271 true l0_0 l0_1))))))) else (some false)))) else (some false)) = some r := H
        have A62 := Aside0.mk A620
        clear A620
        by_cases c63 : t286 = true
        ·subst c63
         have H1 : ((laws_toIntS.f kj24 l3).bind fun t287 => ((laws_eqIntS.f kj24 t268 t287).bind fun t290 => (if t290 = true then ((laws_markMap.f kj24 t258 t261 1).bind fun bt291 => ((laws_markIntSS.f kj24 t265 bt291.1).bind fun t294 => ((laws_markIntS.f kj24 t268 t294).bind fun bt295 => (if bt295.1 < 0 then (laws_FnExactCoverShift.j1 kj24 a1 l2 l3 t254 t257 t271 true l0_0 l0_1) else ((laws_eqIntS.f kj24 t271 t254).bind fun t297 => (if t297 = true then (laws_FnExactCoverShift.j1 kj24 a1 l2 l3 t254 t257 t271 (t274 != t257) l0_0 l0_1) else (laws_FnExactCoverShift.j1 kj24 a1 l2 l3 t254 t257 t271 true l0_0 l0_1))))))) else (some false)))) = some r := by rw [if_pos rfl] at H; exact H
         clear H
         have H := H1
         clear H1
         replace H := Option.bind_eq_some_iff.mp H
         obtain ⟨t287, A640, H⟩ := H
         replace H : ((laws_eqIntS.f kj24 t268 t287).bind fun t290 => (if t290 = true then ((laws_markMap.f kj24 t258 t261 1).bind fun bt291 => ((laws_markIntSS.f kj24 t265 bt291.1).bind fun t294 => ((laws_markIntS.f kj24 t268 t294).bind fun bt295 => (if bt295.1 < 0 then (laws_FnExactCoverShift.j1 kj24 a1 l2 l3 t254 t257 t271 true l0_0 l0_1) else ((laws_eqIntS.f kj24 t271 t254).bind fun t297 => (if t297 = true then (laws_FnExactCoverShift.j1 kj24 a1 l2 l3 t254 t257 t271 (t274 != t257) l0_0 l0_1) else (laws_FnExactCoverShift.j1 kj24 a1 l2 l3 t254 t257 t271 true l0_0 l0_1))))))) else (some false))) = some r := H
         have A64 := Aside0.mk A640
         clear A640
         replace H := Option.bind_eq_some_iff.mp H
         obtain ⟨t290, A650, H⟩ := H
         replace H : (if t290 = true then ((laws_markMap.f kj24 t258 t261 1).bind fun bt291 => ((laws_markIntSS.f kj24 t265 bt291.1).bind fun t294 => ((laws_markIntS.f kj24 t268 t294).bind fun bt295 => (if bt295.1 < 0 then (laws_FnExactCoverShift.j1 kj24 a1 l2 l3 t254 t257 t271 true l0_0 l0_1) else ((laws_eqIntS.f kj24 t271 t254).bind fun t297 => (if t297 = true then (laws_FnExactCoverShift.j1 kj24 a1 l2 l3 t254 t257 t271 (t274 != t257) l0_0 l0_1) else (laws_FnExactCoverShift.j1 kj24 a1 l2 l3 t254 t257 t271 true l0_0 l0_1))))))) else (some false)) = some r := H
         have A65 := Aside0.mk A650
         clear A650
         by_cases c66 : t290 = true
         ·subst c66
          have H1 : ((laws_markMap.f kj24 t258 t261 1).bind fun bt291 => ((laws_markIntSS.f kj24 t265 bt291.1).bind fun t294 => ((laws_markIntS.f kj24 t268 t294).bind fun bt295 => (if bt295.1 < 0 then (laws_FnExactCoverShift.j1 kj24 a1 l2 l3 t254 t257 t271 true l0_0 l0_1) else ((laws_eqIntS.f kj24 t271 t254).bind fun t297 => (if t297 = true then (laws_FnExactCoverShift.j1 kj24 a1 l2 l3 t254 t257 t271 (t274 != t257) l0_0 l0_1) else (laws_FnExactCoverShift.j1 kj24 a1 l2 l3 t254 t257 t271 true l0_0 l0_1))))))) = some r := by rw [if_pos rfl] at H; exact H
          clear H
          have H := H1
          clear H1
          replace H := Option.bind_eq_some_iff.mp H
          obtain ⟨⟨t291, t292, t293⟩, A670, H⟩ := H
          replace H : ((laws_markIntSS.f kj24 t265 t291).bind fun t294 => ((laws_markIntS.f kj24 t268 t294).bind fun bt295 => (if bt295.1 < 0 then (laws_FnExactCoverShift.j1 kj24 a1 l2 l3 t254 t257 t271 true l0_0 l0_1) else ((laws_eqIntS.f kj24 t271 t254).bind fun t297 => (if t297 = true then (laws_FnExactCoverShift.j1 kj24 a1 l2 l3 t254 t257 t271 (t274 != t257) l0_0 l0_1) else (laws_FnExactCoverShift.j1 kj24 a1 l2 l3 t254 t257 t271 true l0_0 l0_1)))))) = some r := H
          have A67 := Aside0.mk A670
          clear A670
          replace H := Option.bind_eq_some_iff.mp H
          obtain ⟨t294, A680, H⟩ := H
          replace H : ((laws_markIntS.f kj24 t268 t294).bind fun bt295 => (if bt295.1 < 0 then (laws_FnExactCoverShift.j1 kj24 a1 l2 l3 t254 t257 t271 true l0_0 l0_1) else ((laws_eqIntS.f kj24 t271 t254).bind fun t297 => (if t297 = true then (laws_FnExactCoverShift.j1 kj24 a1 l2 l3 t254 t257 t271 (t274 != t257) l0_0 l0_1) else (laws_FnExactCoverShift.j1 kj24 a1 l2 l3 t254 t257 t271 true l0_0 l0_1))))) = some r := H
          have A68 := Aside0.mk A680
          clear A680
          replace H := Option.bind_eq_some_iff.mp H
          obtain ⟨⟨t295, t296⟩, A690, H⟩ := H
          replace H : (if t295 < 0 then (laws_FnExactCoverShift.j1 kj24 a1 l2 l3 t254 t257 t271 true l0_0 l0_1) else ((laws_eqIntS.f kj24 t271 t254).bind fun t297 => (if t297 = true then (laws_FnExactCoverShift.j1 kj24 a1 l2 l3 t254 t257 t271 (t274 != t257) l0_0 l0_1) else (laws_FnExactCoverShift.j1 kj24 a1 l2 l3 t254 t257 t271 true l0_0 l0_1)))) = some r := H
          have A69 := Aside0.mk A690
          clear A690
          have HC70 := Aside0.mk H
          clear H
          try go_wp2
          have n0_ := Aside0.mk (Kd.R_drew HO_10.out)
          have n1_ := Aside0.mk (Kd.S_drew HO_13.out)
          have n2_ := Aside0.mk (Kd.R_drew HO_14.out)
          have n3_ := Aside0.mk (Kd.R_drew HO_15.out)
          have n4_ := Aside0.mk (Kd.R_drew HPa.out)
          have n5_ := Aside0.mk (Kd.R_drew HPb.out)
          have n6_ := Aside0.mk (blk_drew BK239.out)
          have n7_ := Aside0.mk (blk_drew BK264.out)
          have n8_ := Aside0.mk (below_drew1 HB.out)
          clear HO_10
          clear HO_13
          clear HO_14
          clear HO_15
          clear HPa
          clear HPb
          clear BK239
          clear BK264
          clear HB
          have HO_10 := n0_
          have HO_13 := n1_
          have HO_14 := n2_
          have HO_15 := n3_
          have HPa := n4_
          have HPb := n5_
          have BK239 := n6_
          have BK264 := n7_
          have HB := n8_
          clear n0_ n1_ n2_ n3_ n4_ n5_ n6_ n7_ n8_
          refine start_ (n := 5) (S := fun w' => w'.cell? ⟨gb264, 0, none⟩ = some (.slice Ao41 t258.length co41) ∧ w'.cell? ⟨gb264, 1, none⟩ = some (.slice Ao44 t261.length co44) ∧ w'.cell? ⟨gb239, 0, none⟩ = some (.slice A0_0 l0_0.length c0_0) ∧ w'.cell? ⟨gb239, 1, none⟩ = some (.slice A0_1 l0_1.length c0_1)) (ds := []) #[false, false, false, false, false] (by kernel_rfl) rfl rfl ⟨(blk_cell BK264.out 0).trans rfl, (blk_cell BK264.out 1).trans rfl, (blk_cell BK239.out 0).trans rfl, (blk_cell BK239.out 1).trans rfl⟩ (fun hHeld => ?_)
          generalize wc.drew = w71 at HO_10 HO_13 HO_14 HO_15 HPa HPb BK239 BK264 HB hHeld ⊢
          refine take_ (i := 0) (N := some 69) (v := ?_) (a' := ?_) #[true, false, false, false, false] rfl rfl (by kernel_rfl) (fun _ _ _ h => h) (Or.inl ⟨by rfl, ?_⟩) hHeld ?_ ?_
          rotate_left
          ·rintro w' ⟨s0, s1, s2, s3⟩
           go_simp
           with_reducible rfl
          rotate_left
          ·simp only [Act.put, List.setIfInBounds_toArray, List.set_cons_zero, List.set_cons_succ, i64_w, i32_w]
           rfl
          refine take_ (i := 1) (N := some 70) (v := ?_) (a' := ?_) #[true, true, false, false, false] rfl rfl (by kernel_rfl) (fun _ _ _ h => h) (Or.inl ⟨by rfl, ?_⟩) hHeld ?_ ?_
          rotate_left
          ·rintro w' ⟨s0, s1, s2, s3⟩
           go_simp
           with_reducible rfl
          rotate_left
          ·simp only [Act.put, List.setIfInBounds_toArray, List.set_cons_zero, List.set_cons_succ, i64_w, i32_w]
           rfl
          refine one_ (i := 2) (N := some 71) #[true, true, true, false, false] rfl rfl (by kernel_rfl) (by decide) (fun K hK => ?_)
          refine goes_ Try.func18 (by kernel_rfl) rfl #[.agg #[.slice A0_0 l0_0.length c0_0, .slice A0_1 l0_1.length c0_1]] (by rfl) rfl rfl (by (try simp only [List.map_toArray, List.map_cons, List.map_nil]); first | done | rfl | (simp only [List.length_drop, List.length_take]; rfl)) ?_
          with_reducible refine (laws_toMap.calls kj24 _ _ l0_0 _ _ l0_1 t276 t279 _ ?side1 ?side2 ?side3 ?side4 A58.out).mono ?_
          (case side1 => repeat (first | exact (Kd.C_below HR0_0.out HB.out) | (with_reducible refine Kd.C_alloc ?_ _) | (with_reducible refine Kd.C_drewN ?_ _) | (with_reducible refine Kd.C_drew ?_)))
          (case side2 => exact HC0_0.out)
          (case side3 => repeat (first | exact (Kd.C_below HR0_1.out HB.out) | (with_reducible refine Kd.C_alloc ?_ _) | (with_reducible refine Kd.C_drewN ?_ _) | (with_reducible refine Kd.C_drew ?_)))
          (case side4 => exact HC0_1.out)
          rintro e w72 ⟨v277, v280, rfl, ho0, ho1, hb⟩
          refine ⟨_, rfl, ?_⟩
          have n0_ := Aside0.mk (Kd.R_mono (Kd.R_told (Kd.R_told (Kd.R_old (by (with_reducible repeat (first | apply Kd.R_alloc | apply Kd.R_drewN | apply Kd.R_drew)); exact HO_10.out) hb) (Kd.R_base ho0)) (Kd.R_base ho1)) (fun _ h_ => h_.1))
          have n1_ := Aside0.mk (Kd.S_mono (Kd.S_told (Kd.S_told (Kd.S_old (by (with_reducible repeat (first | apply Kd.S_alloc | apply Kd.S_drewN | apply Kd.S_drew)); exact HO_13.out) hb) (Kd.R_base ho0)) (Kd.R_base ho1)) (fun _ h_ => h_.1))
          have n2_ := Aside0.mk (Kd.R_mono (Kd.R_told (Kd.R_told (Kd.R_old (by (with_reducible repeat (first | apply Kd.R_alloc | apply Kd.R_drewN | apply Kd.R_drew)); exact HO_14.out) hb) (Kd.R_base ho0)) (Kd.R_base ho1)) (fun _ h_ => h_.1))
          have n3_ := Aside0.mk (Kd.R_mono (Kd.R_told (Kd.R_told (Kd.R_old (by (with_reducible repeat (first | apply Kd.R_alloc | apply Kd.R_drewN | apply Kd.R_drew)); exact HO_15.out) hb) (Kd.R_base ho0)) (Kd.R_base ho1)) (fun _ h_ => h_.1))
          have n4_ := Aside0.mk (Kd.R_mono (Kd.R_told (Kd.R_told (Kd.R_old (by (with_reducible repeat (first | apply Kd.R_alloc | apply Kd.R_drewN | apply Kd.R_drew)); exact HPa.out) hb) (Kd.R_base ho0)) (Kd.R_base ho1)) (fun _ h_ => h_.1))
          have n5_ := Aside0.mk (Kd.R_mono (Kd.R_told (Kd.R_told (Kd.R_old (by (with_reducible repeat (first | apply Kd.R_alloc | apply Kd.R_drewN | apply Kd.R_drew)); exact HPb.out) hb) (Kd.R_base ho0)) (Kd.R_base ho1)) (fun _ h_ => h_.1))
          have n6_ := Aside0.mk (Kd.R_lower (Kd.R_new' (Kd.R_new' (Kd.R_new' (Kd.R_new' (Kd.R_new' ho0 (Kd.R_lt (by (with_reducible repeat (first | apply Kd.R_alloc | apply Kd.R_drewN | apply Kd.R_drew)); exact HO_10.out))) (Kd.R_lt (by (with_reducible repeat (first | apply Kd.R_alloc | apply Kd.R_drewN | apply Kd.R_drew)); exact HO_14.out))) (Kd.R_lt (by (with_reducible repeat (first | apply Kd.R_alloc | apply Kd.R_drewN | apply Kd.R_drew)); exact HO_15.out))) (Kd.R_lt (by (with_reducible repeat (first | apply Kd.R_alloc | apply Kd.R_drewN | apply Kd.R_drew)); exact HPa.out))) (Kd.R_lt (by (with_reducible repeat (first | apply Kd.R_alloc | apply Kd.R_drewN | apply Kd.R_drew)); exact HPb.out))) (below_size (by repeat (first | (with_reducible first | exact HB.out | apply below_alloc | apply pw_below_drewN | apply below_drew1 | refine below_set ?_ GE239.out | refine below_set ?_ GE264.out) | exact HB.out))))
          have n7_ := Aside0.mk (Kd.R_lower (Kd.R_new' (Kd.R_new' (Kd.R_new' (Kd.R_new' (Kd.R_new' ho1 (Kd.R_lt (by (with_reducible repeat (first | apply Kd.R_alloc | apply Kd.R_drewN | apply Kd.R_drew)); exact HO_10.out))) (Kd.R_lt (by (with_reducible repeat (first | apply Kd.R_alloc | apply Kd.R_drewN | apply Kd.R_drew)); exact HO_14.out))) (Kd.R_lt (by (with_reducible repeat (first | apply Kd.R_alloc | apply Kd.R_drewN | apply Kd.R_drew)); exact HO_15.out))) (Kd.R_lt (by (with_reducible repeat (first | apply Kd.R_alloc | apply Kd.R_drewN | apply Kd.R_drew)); exact HPa.out))) (Kd.R_lt (by (with_reducible repeat (first | apply Kd.R_alloc | apply Kd.R_drewN | apply Kd.R_drew)); exact HPb.out))) (below_size (by repeat (first | (with_reducible first | exact HB.out | apply below_alloc | apply pw_below_drewN | apply below_drew1 | refine below_set ?_ GE239.out | refine below_set ?_ GE264.out) | exact HB.out))))
          have n8_ := Aside0.mk (blk_below (g := gb239) (o := .cells #[.slice A0_0 l0_0.length c0_0, .slice A0_1 l0_1.length c0_1] 24 (0, 0)) (by (with_reducible repeat (first | refine blk_drewN ?_ _ | refine blk_drew ?_ | refine blk_alloc ?_ _)); exact BK239.out) hb)
          have n9_ := Aside0.mk (blk_below (g := gb264) (o := .cells #[.slice Ao41 t258.length co41, .slice Ao44 t261.length co44] 29 (0, 0)) (by (with_reducible repeat (first | refine blk_drewN ?_ _ | refine blk_drew ?_ | refine blk_alloc ?_ _)); exact BK264.out) hb)
          have n10_ := Aside0.mk (below_step (by repeat (first | (with_reducible first | exact HB.out | apply below_alloc | apply pw_below_drewN | apply below_drew1 | refine below_set ?_ GE239.out | refine below_set ?_ GE264.out) | exact HB.out)) hb)
          clear HO_10
          clear HO_13
          clear HO_14
          clear HO_15
          clear HPa
          clear HPb
          clear BK239
          clear BK264
          clear HB
          have HO_10 := n0_
          have HO_13 := n1_
          have HO_14 := n2_
          have HO_15 := n3_
          have HPa := n4_
          have HPb := n5_
          have HO278 := n6_
          have HO281 := n7_
          have BK239 := n8_
          have BK264 := n9_
          have HB := n10_
          clear n0_ n1_ n2_ n3_ n4_ n5_ n6_ n7_ n8_ n9_ n10_
          (try clear hb)
          (try clear hb2)
          (try clear hk)
          (try clear hi)
          (try clear ho0)
          (try clear ho1)
          obtain ⟨Ao73, co73, eo73⟩ := Kd.R_slice HO278.out
          (first | subst eo73 | (injection eo73 with f1_ f2_ f3_; have f4_ := f1_.symm; have f5_ := f3_.symm; clear f1_ f2_ f3_; subst f4_; subst f5_))
          obtain ⟨Ao74, co74, eo74⟩ := Kd.R_slice HO281.out
          (first | subst eo74 | (injection eo74 with f1_ f2_ f3_; have f4_ := f1_.symm; have f5_ := f3_.symm; clear f1_ f2_ f3_; subst f4_; subst f5_))
          refine hK.out _ _ ⟨(blk_cell BK264.out 0).trans rfl, (blk_cell BK264.out 1).trans rfl, (blk_cell BK239.out 0).trans rfl, (blk_cell BK239.out 1).trans rfl⟩ (fun hHeld => ?_)
          clear hK K
          refine norm_ (a' := ?_) ?_ ?_
          rotate_left
          ·show Act.put _ (some 71) _ = _
           simp only [Act.put, List.setIfInBounds_toArray, List.set_cons_zero, List.set_cons_succ, i64_w, i32_w]
           rfl
          refine one_ (i := 3) (N := some 72) #[true, true, true, true, false] rfl rfl (by kernel_rfl) (by decide) (fun K hK => ?_)
          refine goes_ Try.func21 (by kernel_rfl) rfl #[.agg #[.slice Ao41 t258.length co41, .slice Ao44 t261.length co44], .agg #[.slice Ao73 t276.length co73, .slice Ao74 t279.length co74]] (by rfl) rfl rfl (by (try simp only [List.map_toArray, List.map_cons, List.map_nil]); first | done | rfl | (simp only [List.length_drop, List.length_take]; rfl)) ?_
          with_reducible refine (laws_eqMap.calls kj24 _ _ t258 _ _ t261 _ _ t276 _ _ t279 true _ ?side1 ?side2 ?side3 ?side4 ?side5 ?side6 ?side7 ?side8 A59.out).mono ?_
          (case side1 => repeat (first | exact (Kd.R_reads' HPa.out).2.2 | (with_reducible refine Kd.C_alloc ?_ _) | (with_reducible refine Kd.C_drewN ?_ _) | (with_reducible refine Kd.C_drew ?_)))
          (case side2 => exact (Kd.R_reads' HPa.out).2.1)
          (case side3 => repeat (first | exact (Kd.R_reads' HPb.out).2.2 | (with_reducible refine Kd.C_alloc ?_ _) | (with_reducible refine Kd.C_drewN ?_ _) | (with_reducible refine Kd.C_drew ?_)))
          (case side4 => exact (Kd.R_reads' HPb.out).2.1)
          (case side5 => repeat (first | exact (Kd.R_reads' HO278.out).2.2 | (with_reducible refine Kd.C_alloc ?_ _) | (with_reducible refine Kd.C_drewN ?_ _) | (with_reducible refine Kd.C_drew ?_)))
          (case side6 => exact (Kd.R_reads' HO278.out).2.1)
          (case side7 => repeat (first | exact (Kd.R_reads' HO281.out).2.2 | (with_reducible refine Kd.C_alloc ?_ _) | (with_reducible refine Kd.C_drewN ?_ _) | (with_reducible refine Kd.C_drew ?_)))
          (case side8 => exact (Kd.R_reads' HO281.out).2.1)
          rintro e w75 ⟨rfl, hb⟩
          refine ⟨_, rfl, ?_⟩
          have n0_ := Aside0.mk (Kd.R_below (by (with_reducible repeat (first | apply Kd.R_alloc | apply Kd.R_drewN | apply Kd.R_drew)); exact HO_10.out) hb)
          have n1_ := Aside0.mk (Kd.S_below (by (with_reducible repeat (first | apply Kd.S_alloc | apply Kd.S_drewN | apply Kd.S_drew)); exact HO_13.out) hb)
          have n2_ := Aside0.mk (Kd.R_below (by (with_reducible repeat (first | apply Kd.R_alloc | apply Kd.R_drewN | apply Kd.R_drew)); exact HO_14.out) hb)
          have n3_ := Aside0.mk (Kd.R_below (by (with_reducible repeat (first | apply Kd.R_alloc | apply Kd.R_drewN | apply Kd.R_drew)); exact HO_15.out) hb)
          have n4_ := Aside0.mk (Kd.R_below (by (with_reducible repeat (first | apply Kd.R_alloc | apply Kd.R_drewN | apply Kd.R_drew)); exact HPa.out) hb)
          have n5_ := Aside0.mk (Kd.R_below (by (with_reducible repeat (first | apply Kd.R_alloc | apply Kd.R_drewN | apply Kd.R_drew)); exact HPb.out) hb)
          have n6_ := Aside0.mk (Kd.R_below (by (with_reducible repeat (first | apply Kd.R_alloc | apply Kd.R_drewN | apply Kd.R_drew)); exact HO278.out) hb)
          have n7_ := Aside0.mk (Kd.R_below (by (with_reducible repeat (first | apply Kd.R_alloc | apply Kd.R_drewN | apply Kd.R_drew)); exact HO281.out) hb)
          have n8_ := Aside0.mk (blk_below (g := gb239) (o := .cells #[.slice A0_0 l0_0.length c0_0, .slice A0_1 l0_1.length c0_1] 24 (0, 0)) (by (with_reducible repeat (first | refine blk_drewN ?_ _ | refine blk_drew ?_ | refine blk_alloc ?_ _)); exact BK239.out) hb)
          have n9_ := Aside0.mk (blk_below (g := gb264) (o := .cells #[.slice Ao41 t258.length co41, .slice Ao44 t261.length co44] 29 (0, 0)) (by (with_reducible repeat (first | refine blk_drewN ?_ _ | refine blk_drew ?_ | refine blk_alloc ?_ _)); exact BK264.out) hb)
          have n10_ := Aside0.mk (below_step (by repeat (first | (with_reducible first | exact HB.out | apply below_alloc | apply pw_below_drewN | apply below_drew1 | refine below_set ?_ GE239.out | refine below_set ?_ GE264.out) | exact HB.out)) hb)
          clear HO_10
          clear HO_13
          clear HO_14
          clear HO_15
          clear HPa
          clear HPb
          clear HO278
          clear HO281
          clear BK239
          clear BK264
          clear HB
          have HO_10 := n0_
          have HO_13 := n1_
          have HO_14 := n2_
          have HO_15 := n3_
          have HPa := n4_
          have HPb := n5_
          have HO278 := n6_
          have HO281 := n7_
          have BK239 := n8_
          have BK264 := n9_
          have HB := n10_
          clear n0_ n1_ n2_ n3_ n4_ n5_ n6_ n7_ n8_ n9_ n10_
          (try clear hb)
          (try clear hb2)
          (try clear hk)
          (try clear hi)
          refine hK.out _ _ ⟨(blk_cell BK264.out 0).trans rfl, (blk_cell BK264.out 1).trans rfl, (blk_cell BK239.out 0).trans rfl, (blk_cell BK239.out 1).trans rfl⟩ (fun hHeld => ?_)
          clear hK K
          refine norm_ (a' := ?_) ?_ ?_
          rotate_left
          ·show Act.put _ (some 72) _ = _
           simp only [Act.put, List.setIfInBounds_toArray, List.set_cons_zero, List.set_cons_succ, i64_w, i32_w]
           rfl
          refine pure_ (i := 4) (N := some 73) (v := ?_) (a' := ?_) #[true, true, true, true, true] rfl rfl (by kernel_rfl) (fun _ _ _ h => h) (Or.inl ⟨by rfl, ?_⟩) ?_ ?_
          rotate_left
          ·intro w'
           go_simp
           with_reducible rfl
          rotate_left
          ·simp only [Act.put, List.setIfInBounds_toArray, List.set_cons_zero, List.set_cons_succ, i64_w, i32_w]
           rfl
          refine done_ (by kernel_rfl) ?_
          go_upto_region 27 with (first | ((with_reducible refine gate_callee (f := 19) rfl ?_); refine goesL_ (some 76) rfl rfl Try.func19 (by kernel_rfl) rfl #[.slice A2 l2.length c2] rfl (by (try simp only [List.map_toArray, List.map_cons, List.map_nil]); first | done | rfl | (simp only [List.length_drop, List.length_take]; rfl)) ?_; (with_reducible refine (laws_toIntSS.calls kj24 _ _ l2 t283 _ ?side1 ?side2 A61.out).mono ?_); (case side1 => repeat (first | exact (Kd.C_below HR2.out HB.out) | (with_reducible refine Kd.C_alloc ?_ _))); (case side2 => exact HC2.out); rintro e w76 ⟨v284, rfl, ho0, hb⟩; refine ⟨_, rfl, ?_⟩; have n0_ := Aside0.mk (Kd.R_below (by (with_reducible repeat apply Kd.R_alloc); exact HO_10.out) hb); have n1_ := Aside0.mk (Kd.S_elder' (by (with_reducible repeat apply Kd.S_alloc); exact HO_13.out) (Kd.S_base ho0) hb); have n2_ := Aside0.mk (Kd.R_below (by (with_reducible repeat apply Kd.R_alloc); exact HO_14.out) hb); have n3_ := Aside0.mk (Kd.R_below (by (with_reducible repeat apply Kd.R_alloc); exact HO_15.out) hb); have n4_ := Aside0.mk (Kd.R_below (by (with_reducible repeat apply Kd.R_alloc); exact HPa.out) hb); have n5_ := Aside0.mk (Kd.R_below (by (with_reducible repeat apply Kd.R_alloc); exact HPb.out) hb); have n6_ := Aside0.mk (Kd.R_below (by (with_reducible repeat apply Kd.R_alloc); exact HO278.out) hb); have n7_ := Aside0.mk (Kd.R_below (by (with_reducible repeat apply Kd.R_alloc); exact HO281.out) hb); have n8_ := Aside0.mk (Kd.S_lower (Kd.S_new' (Kd.S_new' (Kd.S_new' (Kd.S_new' (Kd.S_new' (Kd.S_new' (Kd.S_new' (Kd.S_new' ho0 (Kd.R_lt (by (with_reducible repeat apply Kd.R_alloc); exact HO_10.out))) (Kd.S_lt (by (with_reducible repeat apply Kd.S_alloc); exact HO_13.out))) (Kd.R_lt (by (with_reducible repeat apply Kd.R_alloc); exact HO_14.out))) (Kd.R_lt (by (with_reducible repeat apply Kd.R_alloc); exact HO_15.out))) (Kd.R_lt (by (with_reducible repeat apply Kd.R_alloc); exact HPa.out))) (Kd.R_lt (by (with_reducible repeat apply Kd.R_alloc); exact HPb.out))) (Kd.R_lt (by (with_reducible repeat apply Kd.R_alloc); exact HO278.out))) (Kd.R_lt (by (with_reducible repeat apply Kd.R_alloc); exact HO281.out))) (below_size (by repeat (first | (with_reducible first | exact HB.out | apply below_alloc | apply pw_below_drewN | apply below_drew1 | refine below_set ?_ GE239.out | refine below_set ?_ GE264.out) | exact HB.out)))); have n9_ := Aside0.mk (blk_below (g := gb239) (o := .cells #[.slice A0_0 l0_0.length c0_0, .slice A0_1 l0_1.length c0_1] 24 (0, 0)) (by (with_reducible repeat refine blk_alloc ?_ _); exact BK239.out) hb); have n10_ := Aside0.mk (blk_below (g := gb264) (o := .cells #[.slice Ao41 t258.length co41, .slice Ao44 t261.length co44] 29 (0, 0)) (by (with_reducible repeat refine blk_alloc ?_ _); exact BK264.out) hb); have n11_ := Aside0.mk (below_step (by repeat (first | (with_reducible first | exact HB.out | apply below_alloc | apply pw_below_drewN | apply below_drew1 | refine below_set ?_ GE239.out | refine below_set ?_ GE264.out) | exact HB.out)) hb); clear HO_10; clear HO_13; clear HO_14; clear HO_15; clear HPa; clear HPb; clear HO278; clear HO281; clear BK239; clear BK264; clear HB; have HO_10 := n0_; have HO_13 := n1_; have HO_14 := n2_; have HO_15 := n3_; have HPa := n4_; have HPb := n5_; have HO278 := n6_; have HO281 := n7_; have HO285 := n8_; have BK239 := n9_; have BK264 := n10_; have HB := n11_; clear n0_ n1_ n2_ n3_ n4_ n5_ n6_ n7_ n8_ n9_ n10_ n11_; (try clear hb); (try clear ho0); obtain ⟨Ao77, co77, eo77⟩ := Kd.S_slice HO285.out; subst eo77) | ((with_reducible refine gate_callee (f := 22) rfl ?_); refine goesL_ (some 77) rfl rfl Try.func22 (by kernel_rfl) rfl #[.slice Ao48 t265.length co48, .slice Ao77 t283.length co77] rfl (by (try simp only [List.map_toArray, List.map_cons, List.map_nil]); first | done | rfl | (simp only [List.length_drop, List.length_take]; rfl)) ?_; (with_reducible refine (laws_eqIntSS.calls kj24 _ _ t265 _ _ t283 true _ ?side1 ?side2 ?side3 ?side4 A62.out).mono ?_); (case side1 => repeat (first | exact (Kd.S_reads' HO_13.out).2.2 | (with_reducible refine Kd.C_alloc ?_ _))); (case side2 => exact (Kd.S_reads' HO_13.out).2.1); (case side3 => repeat (first | exact (Kd.S_reads' HO285.out).2.2 | (with_reducible refine Kd.C_alloc ?_ _))); (case side4 => exact (Kd.S_reads' HO285.out).2.1); rintro e w' ⟨rfl, ⟨nd, rfl⟩⟩; refine ⟨_, rfl, ?_⟩) | ((with_reducible refine gate_callee (f := 29) rfl ?_); refine goesL_ (some 81) rfl rfl Try.func29 (by kernel_rfl) rfl #[.slice A3 l3.length c3] rfl (by (try simp only [List.map_toArray, List.map_cons, List.map_nil]); first | done | rfl | (simp only [List.length_drop, List.length_take]; rfl)) ?_; (with_reducible refine (laws_toIntS.calls kj24 _ _ l3 t287 _ ?side1 ?side2 A64.out).mono ?_); (case side1 => repeat (first | exact (Kd.C_below HR3.out (by repeat (first | (with_reducible first | exact HB.out | apply below_alloc | apply pw_below_drewN | apply below_drew1 | refine below_set ?_ GE239.out | refine below_set ?_ GE264.out) | exact HB.out))) | (with_reducible refine Kd.C_alloc ?_ _))); (case side2 => exact HC3.out); rintro e w78 ⟨v288, rfl, ho0, hb⟩; refine ⟨_, rfl, ?_⟩; have n0_ := Aside0.mk (Kd.R_elder' (by (with_reducible repeat apply Kd.R_alloc); exact HO_10.out) (Kd.R_base ho0) hb); have n1_ := Aside0.mk (Kd.S_elder' (by (with_reducible repeat apply Kd.S_alloc); exact HO_13.out) (Kd.R_base ho0) hb); have n2_ := Aside0.mk (Kd.R_elder' (by (with_reducible repeat apply Kd.R_alloc); exact HO_14.out) (Kd.R_base ho0) hb); have n3_ := Aside0.mk (Kd.R_elder' (by (with_reducible repeat apply Kd.R_alloc); exact HO_15.out) (Kd.R_base ho0) hb); have n4_ := Aside0.mk (Kd.R_elder' (by (with_reducible repeat apply Kd.R_alloc); exact HPa.out) (Kd.R_base ho0) hb); have n5_ := Aside0.mk (Kd.R_elder' (by (with_reducible repeat apply Kd.R_alloc); exact HPb.out) (Kd.R_base ho0) hb); have n6_ := Aside0.mk (Kd.R_elder' (by (with_reducible repeat apply Kd.R_alloc); exact HO278.out) (Kd.R_base ho0) hb); have n7_ := Aside0.mk (Kd.R_elder' (by (with_reducible repeat apply Kd.R_alloc); exact HO281.out) (Kd.R_base ho0) hb); have n8_ := Aside0.mk (Kd.S_elder' (by (with_reducible repeat apply Kd.S_alloc); exact HO285.out) (Kd.R_base ho0) hb); have n9_ := Aside0.mk (Kd.R_lower (Kd.R_new' (Kd.R_new' (Kd.R_new' (Kd.R_new' (Kd.R_new' (Kd.R_new' (Kd.R_new' ho0 (Kd.R_lt (by (with_reducible repeat apply Kd.R_alloc); exact HO_10.out))) (Kd.R_lt (by (with_reducible repeat apply Kd.R_alloc); exact HO_14.out))) (Kd.R_lt (by (with_reducible repeat apply Kd.R_alloc); exact HO_15.out))) (Kd.R_lt (by (with_reducible repeat apply Kd.R_alloc); exact HPa.out))) (Kd.R_lt (by (with_reducible repeat apply Kd.R_alloc); exact HPb.out))) (Kd.R_lt (by (with_reducible repeat apply Kd.R_alloc); exact HO278.out))) (Kd.R_lt (by (with_reducible repeat apply Kd.R_alloc); exact HO281.out))) (below_size (by repeat (first | (with_reducible first | exact HB.out | apply below_alloc | apply pw_below_drewN | apply below_drew1 | refine below_set ?_ GE239.out | refine below_set ?_ GE264.out) | exact HB.out)))); have n10_ := Aside0.mk (blk_below (g := gb239) (o := .cells #[.slice A0_0 l0_0.length c0_0, .slice A0_1 l0_1.length c0_1] 24 (0, 0)) (by (with_reducible repeat refine blk_alloc ?_ _); exact BK239.out) hb); have n11_ := Aside0.mk (blk_below (g := gb264) (o := .cells #[.slice Ao41 t258.length co41, .slice Ao44 t261.length co44] 29 (0, 0)) (by (with_reducible repeat refine blk_alloc ?_ _); exact BK264.out) hb); have n12_ := Aside0.mk (below_step (by repeat (first | (with_reducible first | exact HB.out | apply below_alloc | apply pw_below_drewN | apply below_drew1 | refine below_set ?_ GE239.out | refine below_set ?_ GE264.out) | exact HB.out)) hb); clear HO_10; clear HO_13; clear HO_14; clear HO_15; clear HPa; clear HPb; clear HO278; clear HO281; clear HO285; clear BK239; clear BK264; clear HB; have HO_10 := n0_; have HO_13 := n1_; have HO_14 := n2_; have HO_15 := n3_; have HPa := n4_; have HPb := n5_; have HO278 := n6_; have HO281 := n7_; have HO285 := n8_; have HO289 := n9_; have BK239 := n10_; have BK264 := n11_; have HB := n12_; clear n0_ n1_ n2_ n3_ n4_ n5_ n6_ n7_ n8_ n9_ n10_ n11_ n12_; (try clear hb); (try clear ho0); obtain ⟨Ao79, co79, eo79⟩ := Kd.R_slice HO289.out; subst eo79) | ((with_reducible refine gate_callee (f := 31) rfl ?_); refine goesL_ (some 82) rfl rfl Try.func31 (by kernel_rfl) rfl #[.slice Ao49 t268.length co49, .slice Ao79 t287.length co79] rfl (by (try simp only [List.map_toArray, List.map_cons, List.map_nil]); first | done | rfl | (simp only [List.length_drop, List.length_take]; rfl)) ?_; (with_reducible refine (laws_eqIntS.calls kj24 _ _ t268 _ _ t287 true _ ?side1 ?side2 ?side3 ?side4 A65.out).mono ?_); (case side1 => repeat (first | exact (Kd.R_reads' HO_14.out).2.2 | (with_reducible refine Kd.C_alloc ?_ _))); (case side2 => exact (Kd.R_reads' HO_14.out).2.1); (case side3 => repeat (first | exact (Kd.R_reads' HO289.out).2.2 | (with_reducible refine Kd.C_alloc ?_ _))); (case side4 => exact (Kd.R_reads' HO289.out).2.1); rintro e w' ⟨rfl, ⟨nd, rfl⟩⟩; refine ⟨_, rfl, ?_⟩; have hnb80 := NB264_239.out; have hnc80 := NB239_264.out; have hcz81_0 : w78.cell? ⟨gb264, 0, none⟩ = some (.slice Ao41 t258.length co41) := (blk_cell BK264.out 0).trans rfl; have hcz81_1 : w78.cell? ⟨gb264, 1, none⟩ = some (.slice Ao44 t261.length co44) := (blk_cell BK264.out 1).trans rfl; have hfz81_0 := blk_frozen BK264.out 0; have hfz81_1 := blk_frozen BK264.out 1) | ((with_reducible refine gate_callee (f := 25) rfl ?_); refine goesL_ (some 86) rfl rfl Try.func25 (by kernel_rfl) rfl #[.agg #[.slice Ao41 t258.length co41, .slice Ao44 t261.length co44], .int .i64 1] rfl (by (try simp only [List.map_toArray, List.map_cons, List.map_nil]); first | done | rfl | (simp only [List.length_drop, List.length_take]; rfl)) ?_; (with_reducible refine (laws_markMap.calls kj24 (fun k_ => some k_ = (.slice Ao41 t258.length co41 : Value).ownBlock) (.slice Ao41 t258.length co41) t258 (fun k_ => some k_ = (.slice Ao44 t261.length co44 : Value).ownBlock) (.slice Ao44 t261.length co44) t261 1 t291 t292 t293 w _ ?side1 ?side2 ?side3 ?side4 ?side5 A67.out).mono ?_); (case side1 => repeat (first | (with_reducible first | exact HB.out | apply below_alloc | apply pw_below_drewN | apply below_drew1 | refine below_set ?_ GE239.out | refine below_set ?_ GE264.out) | exact HB.out)); (case side2 => exact Kd.R_tight rfl HPa.out); (case side3 => exact fun k_ e_ => (HPa.out.1 k_ e_.symm).1.1.1.2.2.2); (case side4 => exact Kd.R_tight rfl HPb.out); (case side5 => exact fun k_ e_ => (HPb.out.1 k_ e_.symm).1.1.1.2.2.2); rintro e w82 ⟨rfl, hy0, hy1, hb, hkp⟩; refine ⟨_, rfl, ?_⟩; have n0_ := Aside0.mk (Kd.R_mono (ok' := fun k_ => some k_ ≠ (.slice Ao49 t268.length co49 : Value).ownBlock ∧ some k_ ≠ (v272 : Value).ownBlock ∧ some k_ ≠ (.slice Ao41 t258.length co41 : Value).ownBlock ∧ some k_ ≠ (.slice Ao44 t261.length co44 : Value).ownBlock ∧ some k_ ≠ (.slice Ao73 t276.length co73 : Value).ownBlock ∧ some k_ ≠ (.slice Ao74 t279.length co74 : Value).ownBlock ∧ some k_ ≠ (.slice Ao79 t287.length co79 : Value).ownBlock) (Kd.R_keptB (HO_10.out) hkp (fun k_ hk_ hs_ => Or.elim hs_ (fun e_ => (hk_.1.1.1.2.2.1) e_) (fun e_ => (hk_.1.1.1.2.2.2) e_))) (fun k_ hk_ => ⟨hk_.1.1.1.1.1, hk_.1.1.1.1.2.1, hk_.1.1.1.1.2.2.1, hk_.1.1.1.1.2.2.2, hk_.1.1.1.2, hk_.1.1.2, hk_.1.2⟩)); have n1_ := Aside0.mk (Kd.S_mono (ok' := fun k_ => some k_ ≠ (v255 : Value).ownBlock ∧ some k_ ≠ (.slice Ao49 t268.length co49 : Value).ownBlock ∧ some k_ ≠ (v272 : Value).ownBlock ∧ some k_ ≠ (.slice Ao41 t258.length co41 : Value).ownBlock ∧ some k_ ≠ (.slice Ao44 t261.length co44 : Value).ownBlock ∧ some k_ ≠ (.slice Ao73 t276.length co73 : Value).ownBlock ∧ some k_ ≠ (.slice Ao74 t279.length co74 : Value).ownBlock ∧ some k_ ≠ (.slice Ao77 t283.length co77 : Value).ownBlock ∧ some k_ ≠ (.slice Ao79 t287.length co79 : Value).ownBlock) (Kd.S_keptB (HO_13.out) hkp (fun k_ hk_ hs_ => Or.elim hs_ (fun e_ => (hk_.1.1.1.1.2.2.2.1) e_) (fun e_ => (hk_.1.1.1.1.2.2.2.2) e_))) (fun k_ hk_ => ⟨hk_.1.1.1.1.1.1, hk_.1.1.1.1.1.2.1, hk_.1.1.1.1.1.2.2.1, hk_.1.1.1.1.1.2.2.2.1, hk_.1.1.1.1.1.2.2.2.2, hk_.1.1.1.1.2, hk_.1.1.1.2, hk_.1.1.2, hk_.1.2⟩)); have n2_ := Aside0.mk (Kd.R_mono (ok' := fun k_ => some k_ ≠ (v255 : Value).ownBlock ∧ some k_ ≠ (v272 : Value).ownBlock ∧ some k_ ≠ (.slice Ao41 t258.length co41 : Value).ownBlock ∧ some k_ ≠ (.slice Ao44 t261.length co44 : Value).ownBlock ∧ some k_ ≠ (.slice Ao73 t276.length co73 : Value).ownBlock ∧ some k_ ≠ (.slice Ao74 t279.length co74 : Value).ownBlock ∧ some k_ ≠ (.slice Ao79 t287.length co79 : Value).ownBlock) (Kd.R_keptB (HO_14.out) hkp (fun k_ hk_ hs_ => Or.elim hs_ (fun e_ => (hk_.1.1.1.2.2.1) e_) (fun e_ => (hk_.1.1.1.2.2.2) e_))) (fun k_ hk_ => ⟨hk_.1.1.1.1.1, hk_.1.1.1.1.2.1, hk_.1.1.1.1.2.2.1, hk_.1.1.1.1.2.2.2, hk_.1.1.1.2, hk_.1.1.2, hk_.1.2⟩)); have n3_ := Aside0.mk (Kd.R_mono (ok' := fun k_ => some k_ ≠ (v255 : Value).ownBlock ∧ some k_ ≠ (.slice Ao49 t268.length co49 : Value).ownBlock ∧ some k_ ≠ (.slice Ao41 t258.length co41 : Value).ownBlock ∧ some k_ ≠ (.slice Ao44 t261.length co44 : Value).ownBlock ∧ some k_ ≠ (.slice Ao73 t276.length co73 : Value).ownBlock ∧ some k_ ≠ (.slice Ao74 t279.length co74 : Value).ownBlock ∧ some k_ ≠ (.slice Ao79 t287.length co79 : Value).ownBlock) (Kd.R_keptB (HO_15.out) hkp (fun k_ hk_ hs_ => Or.elim hs_ (fun e_ => (hk_.1.1.1.2.2.1) e_) (fun e_ => (hk_.1.1.1.2.2.2) e_))) (fun k_ hk_ => ⟨hk_.1.1.1.1.1, hk_.1.1.1.1.2.1, hk_.1.1.1.1.2.2.1, hk_.1.1.1.1.2.2.2, hk_.1.1.1.2, hk_.1.1.2, hk_.1.2⟩)); have n4_ := Aside0.mk (Kd.R_reok rfl hy0 (fun k_ e_ => HPa.out.1 k_ e_)); have n5_ := Aside0.mk (Kd.R_reok rfl hy1 (fun k_ e_ => HPb.out.1 k_ e_)); have n6_ := Aside0.mk (blk_kept (by (with_reducible repeat refine blk_alloc ?_ _); exact BK239.out) hkp (fun hs_ => Or.elim hs_ (fun e_ => (fun e_ => (Kd.R_ne HPa.out BK239.out (by decide)) e_) e_) (fun e_ => (fun e_ => (Kd.R_ne HPb.out BK239.out (by decide)) e_) e_))); have n7_ := Aside0.mk (blk_kept (by (with_reducible repeat refine blk_alloc ?_ _); exact BK264.out) hkp (fun hs_ => Or.elim hs_ (fun e_ => (fun e_ => (Kd.R_ne HPa.out BK264.out (by decide)) e_) e_) (fun e_ => (fun e_ => (Kd.R_ne HPb.out BK264.out (by decide)) e_) e_))); have n8_ := Aside0.mk (Kd.R_mono (ok' := fun k_ => some k_ ≠ (v255 : Value).ownBlock ∧ some k_ ≠ (.slice Ao49 t268.length co49 : Value).ownBlock ∧ some k_ ≠ (v272 : Value).ownBlock ∧ some k_ ≠ (.slice Ao41 t258.length co41 : Value).ownBlock ∧ some k_ ≠ (.slice Ao44 t261.length co44 : Value).ownBlock ∧ some k_ ≠ (.slice Ao74 t279.length co74 : Value).ownBlock ∧ some k_ ≠ (.slice Ao79 t287.length co79 : Value).ownBlock) (Kd.R_keptB (HO278.out) hkp (fun k_ hk_ hs_ => Or.elim hs_ (fun e_ => (hk_.1.1.2) e_) (fun e_ => (hk_.1.2) e_))) (fun k_ hk_ => ⟨hk_.1.1.1.1.1.1.2, hk_.1.1.1.1.1.2, hk_.1.1.1.1.2, hk_.1.1.1.2, hk_.1.1.2, hk_.1.1.1.1.1.1.1, hk_.1.2⟩)); have n9_ := Aside0.mk (Kd.R_mono (ok' := fun k_ => some k_ ≠ (v255 : Value).ownBlock ∧ some k_ ≠ (.slice Ao49 t268.length co49 : Value).ownBlock ∧ some k_ ≠ (v272 : Value).ownBlock ∧ some k_ ≠ (.slice Ao41 t258.length co41 : Value).ownBlock ∧ some k_ ≠ (.slice Ao44 t261.length co44 : Value).ownBlock ∧ some k_ ≠ (.slice Ao73 t276.length co73 : Value).ownBlock ∧ some k_ ≠ (.slice Ao79 t287.length co79 : Value).ownBlock) (Kd.R_keptB (HO281.out) hkp (fun k_ hk_ hs_ => Or.elim hs_ (fun e_ => (hk_.1.1.2) e_) (fun e_ => (hk_.1.2) e_))) (fun k_ hk_ => ⟨hk_.1.1.1.1.1.1.2, hk_.1.1.1.1.1.2, hk_.1.1.1.1.2, hk_.1.1.1.2, hk_.1.1.2, hk_.1.1.1.1.1.1.1, hk_.1.2⟩)); have n10_ := Aside0.mk (Kd.S_mono (ok' := fun k_ => some k_ ≠ (v255 : Value).ownBlock ∧ some k_ ≠ (.slice Ao48 t265.length co48 : Value).ownBlock ∧ some k_ ≠ (.slice Ao49 t268.length co49 : Value).ownBlock ∧ some k_ ≠ (v272 : Value).ownBlock ∧ some k_ ≠ (.slice Ao41 t258.length co41 : Value).ownBlock ∧ some k_ ≠ (.slice Ao44 t261.length co44 : Value).ownBlock ∧ some k_ ≠ (.slice Ao73 t276.length co73 : Value).ownBlock ∧ some k_ ≠ (.slice Ao74 t279.length co74 : Value).ownBlock ∧ some k_ ≠ (.slice Ao79 t287.length co79 : Value).ownBlock) (Kd.S_keptB (HO285.out) hkp (fun k_ hk_ hs_ => Or.elim hs_ (fun e_ => (hk_.1.1.1.1.2) e_) (fun e_ => (hk_.1.1.1.2) e_))) (fun k_ hk_ => ⟨hk_.1.1.1.1.1.1.1.1.1.2, hk_.1.1.1.1.1.1.1.1.2, hk_.1.1.1.1.1.1.1.2, hk_.1.1.1.1.1.1.2, hk_.1.1.1.1.1.2, hk_.1.1.1.1.2, hk_.1.1.1.2, hk_.1.1.2, hk_.1.2⟩)); have n11_ := Aside0.mk (Kd.R_mono (ok' := fun k_ => some k_ ≠ (v255 : Value).ownBlock ∧ some k_ ≠ (.slice Ao49 t268.length co49 : Value).ownBlock ∧ some k_ ≠ (v272 : Value).ownBlock ∧ some k_ ≠ (.slice Ao41 t258.length co41 : Value).ownBlock ∧ some k_ ≠ (.slice Ao44 t261.length co44 : Value).ownBlock ∧ some k_ ≠ (.slice Ao73 t276.length co73 : Value).ownBlock ∧ some k_ ≠ (.slice Ao74 t279.length co74 : Value).ownBlock) (Kd.R_keptB (HO289.out) hkp (fun k_ hk_ hs_ => Or.elim hs_ (fun e_ => (hk_.1.1.1.2) e_) (fun e_ => (hk_.1.1.2) e_))) (fun k_ hk_ => ⟨hk_.1.1.1.1.1.1.1.2, hk_.1.1.1.1.1.1.2, hk_.1.1.1.1.1.2, hk_.1.1.1.1.2, hk_.1.1.1.2, hk_.1.1.2, hk_.1.2⟩)); have n12_ := Aside0.mk (hb); clear HO_10; clear HO_13; clear HO_14; clear HO_15; clear HPa; clear HPb; clear BK239; clear BK264; clear HO278; clear HO281; clear HO285; clear HO289; clear HB; have HO_10 := n0_; have HO_13 := n1_; have HO_14 := n2_; have HO_15 := n3_; have HPa := n4_; have HPb := n5_; have BK239 := n6_; have BK264 := n7_; have HO278 := n8_; have HO281 := n9_; have HO285 := n10_; have HO289 := n11_; have HB := n12_; clear n0_ n1_ n2_ n3_ n4_ n5_ n6_ n7_ n8_ n9_ n10_ n11_ n12_; (try clear hb); (try clear hkp); (try clear hy0); (try clear hy1)) | ((with_reducible refine gate_callee (f := 26) rfl ?_); refine goesL_ (some 89) rfl rfl Try.func26 (by kernel_rfl) rfl #[.slice Ao48 t265.length co48, .int .i64 t291] rfl (by (try simp only [List.map_toArray, List.map_cons, List.map_nil]); first | done | rfl | (simp only [List.length_drop, List.length_take]; rfl)) ?_; have hS_ := Kd.S_bound HO_13.out; refine (laws_markIntSS.calls kj24 _ _ t265 t291 t294 w _ (by repeat (first | (with_reducible first | exact HB.out | apply below_alloc | apply pw_below_drewN | apply below_drew1 | refine below_set ?_ GE239.out | refine below_set ?_ GE264.out) | exact HB.out)) (by (with_reducible repeat apply Kd.S_alloc); exact hS_) A68.out).mono ?_; rintro e w83 ⟨rfl, hb, hkp⟩; refine ⟨_, rfl, ?_⟩; have n0_ := Aside0.mk (Kd.R_reok rfl (Kd.R_keptB (Kd.R_tight rfl (by (with_reducible repeat apply Kd.R_alloc); exact HO_10.out)) hkp (fun k_ hk_ hs_ => (by have h_ := hs_.1; repeat (first | exact h_.1 hk_ | exact h_ hk_ | replace h_ := h_.2)))) (fun k_ e_ => HO_10.out.1 k_ e_)); have n1_ := Aside0.mk True.intro; have n2_ := Aside0.mk (Kd.R_reok rfl (Kd.R_keptB (Kd.R_tight rfl (by (with_reducible repeat apply Kd.R_alloc); exact HO_14.out)) hkp (fun k_ hk_ hs_ => (by have h_ := hs_.1; repeat (first | exact h_.1 hk_ | exact h_ hk_ | replace h_ := h_.2)))) (fun k_ e_ => HO_14.out.1 k_ e_)); have n3_ := Aside0.mk (Kd.R_reok rfl (Kd.R_keptB (Kd.R_tight rfl (by (with_reducible repeat apply Kd.R_alloc); exact HO_15.out)) hkp (fun k_ hk_ hs_ => (by have h_ := hs_.1; repeat (first | exact h_.1 hk_ | exact h_ hk_ | replace h_ := h_.2)))) (fun k_ e_ => HO_15.out.1 k_ e_)); have n4_ := Aside0.mk (Kd.R_reok rfl (Kd.R_keptB (Kd.R_tight rfl (by (with_reducible repeat apply Kd.R_alloc); exact HPa.out)) hkp (fun k_ hk_ hs_ => (by have h_ := hs_.1; repeat (first | exact h_.1 hk_ | exact h_ hk_ | replace h_ := h_.2)))) (fun k_ e_ => HPa.out.1 k_ e_)); have n5_ := Aside0.mk (Kd.R_reok rfl (Kd.R_keptB (Kd.R_tight rfl (by (with_reducible repeat apply Kd.R_alloc); exact HPb.out)) hkp (fun k_ hk_ hs_ => (by have h_ := hs_.1; repeat (first | exact h_.1 hk_ | exact h_ hk_ | replace h_ := h_.2)))) (fun k_ e_ => HPb.out.1 k_ e_)); have n6_ := Aside0.mk (Kd.R_reok rfl (Kd.R_keptB (Kd.R_tight rfl (by (with_reducible repeat apply Kd.R_alloc); exact HO278.out)) hkp (fun k_ hk_ hs_ => (by have h_ := hs_.1; repeat (first | exact h_.1 hk_ | exact h_ hk_ | replace h_ := h_.2)))) (fun k_ e_ => HO278.out.1 k_ e_)); have n7_ := Aside0.mk (Kd.R_reok rfl (Kd.R_keptB (Kd.R_tight rfl (by (with_reducible repeat apply Kd.R_alloc); exact HO281.out)) hkp (fun k_ hk_ hs_ => (by have h_ := hs_.1; repeat (first | exact h_.1 hk_ | exact h_ hk_ | replace h_ := h_.2)))) (fun k_ e_ => HO281.out.1 k_ e_)); have n8_ := Aside0.mk True.intro; have n9_ := Aside0.mk (Kd.R_reok rfl (Kd.R_keptB (Kd.R_tight rfl (by (with_reducible repeat apply Kd.R_alloc); exact HO289.out)) hkp (fun k_ hk_ hs_ => (by have h_ := hs_.1; repeat (first | exact h_.1 hk_ | exact h_ hk_ | replace h_ := h_.2)))) (fun k_ e_ => HO289.out.1 k_ e_)); have n10_ := Aside0.mk (blk_kept (by (with_reducible repeat refine blk_alloc ?_ _); exact BK239.out) hkp (fun hs_ => by obtain ⟨_, _, _, q_, hq_, cs_, hc_⟩ := hs_; have e_ := BK239.out.symm.trans hc_; injection e_ with e_; injection e_ with _ e2_ _; subst e2_; exact absurd hq_ (by decide))); have n11_ := Aside0.mk (blk_kept (by (with_reducible repeat refine blk_alloc ?_ _); exact BK264.out) hkp (fun hs_ => by obtain ⟨_, _, _, q_, hq_, cs_, hc_⟩ := hs_; have e_ := BK264.out.symm.trans hc_; injection e_ with e_; injection e_ with _ e2_ _; subst e2_; exact absurd hq_ (by decide))); have n12_ := Aside0.mk (hb); clear HO_10; clear HO_13; clear HO_14; clear HO_15; clear HPa; clear HPb; clear HO278; clear HO281; clear HO285; clear HO289; clear BK239; clear BK264; clear HB; have HO_10 := n0_; have HO_13 := n1_; have HO_14 := n2_; have HO_15 := n3_; have HPa := n4_; have HPb := n5_; have HO278 := n6_; have HO281 := n7_; have HO285 := n8_; have HO289 := n9_; have BK239 := n10_; have BK264 := n11_; have HB := n12_; clear n0_ n1_ n2_ n3_ n4_ n5_ n6_ n7_ n8_ n9_ n10_ n11_ n12_; (try clear hb); (try clear hkp); (try clear hS_)) | ((with_reducible refine gate_callee (f := 32) rfl ?_); refine goesL_ (some 92) rfl rfl Try.func32 (by kernel_rfl) rfl #[.slice Ao49 t268.length co49, .int .i64 t294] rfl (by (try simp only [List.map_toArray, List.map_cons, List.map_nil]); first | done | rfl | (simp only [List.length_drop, List.length_take]; rfl)) ?_; (with_reducible refine (laws_markIntS.calls kj24 (fun k_ => some k_ = (.slice Ao49 t268.length co49 : Value).ownBlock) (.slice Ao49 t268.length co49) t268 t294 t295 t296 w _ ?side1 ?side2 A69.out).mono ?_); (case side1 => repeat (first | (with_reducible first | exact HB.out | apply below_alloc | apply pw_below_drewN | apply below_drew1 | refine below_set ?_ GE239.out | refine below_set ?_ GE264.out) | exact HB.out)); (case side2 => exact Kd.R_tight rfl HO_14.out); rintro e w84 ⟨rfl, hy0, hb, hkp⟩; refine ⟨_, rfl, ?_⟩; have n0_ := Aside0.mk (Kd.R_mono (ok' := fun k_ => some k_ ≠ (.slice Ao49 t268.length co49 : Value).ownBlock ∧ some k_ ≠ (v272 : Value).ownBlock ∧ some k_ ≠ (.slice Ao41 t258.length co41 : Value).ownBlock ∧ some k_ ≠ (.slice Ao44 t261.length co44 : Value).ownBlock ∧ some k_ ≠ (.slice Ao73 t276.length co73 : Value).ownBlock ∧ some k_ ≠ (.slice Ao74 t279.length co74 : Value).ownBlock ∧ some k_ ≠ (.slice Ao79 t287.length co79 : Value).ownBlock) (Kd.R_keptB (HO_10.out) hkp (fun k_ hk_ hs_ => (hk_.1) hs_)) (fun k_ hk_ => ⟨hk_.1.1, hk_.1.2.1, hk_.1.2.2.1, hk_.1.2.2.2.1, hk_.1.2.2.2.2.1, hk_.1.2.2.2.2.2.1, hk_.1.2.2.2.2.2.2⟩)); have n1_ := Aside0.mk True.intro; have n2_ := Aside0.mk (Kd.R_reok rfl hy0 (fun k_ e_ => HO_14.out.1 k_ e_)); have n3_ := Aside0.mk (Kd.R_mono (ok' := fun k_ => some k_ ≠ (v255 : Value).ownBlock ∧ some k_ ≠ (.slice Ao49 t268.length co49 : Value).ownBlock ∧ some k_ ≠ (.slice Ao41 t258.length co41 : Value).ownBlock ∧ some k_ ≠ (.slice Ao44 t261.length co44 : Value).ownBlock ∧ some k_ ≠ (.slice Ao73 t276.length co73 : Value).ownBlock ∧ some k_ ≠ (.slice Ao74 t279.length co74 : Value).ownBlock ∧ some k_ ≠ (.slice Ao79 t287.length co79 : Value).ownBlock) (Kd.R_keptB (HO_15.out) hkp (fun k_ hk_ hs_ => (hk_.2.1) hs_)) (fun k_ hk_ => ⟨hk_.1.1, hk_.1.2.1, hk_.1.2.2.1, hk_.1.2.2.2.1, hk_.1.2.2.2.2.1, hk_.1.2.2.2.2.2.1, hk_.1.2.2.2.2.2.2⟩)); have n4_ := Aside0.mk (Kd.R_mono (ok' := fun k_ => some k_ ≠ (v255 : Value).ownBlock ∧ some k_ ≠ (.slice Ao49 t268.length co49 : Value).ownBlock ∧ some k_ ≠ (v272 : Value).ownBlock ∧ some k_ ≠ (.slice Ao44 t261.length co44 : Value).ownBlock ∧ some k_ ≠ (.slice Ao73 t276.length co73 : Value).ownBlock ∧ some k_ ≠ (.slice Ao74 t279.length co74 : Value).ownBlock ∧ some k_ ≠ (.slice Ao79 t287.length co79 : Value).ownBlock) (Kd.R_keptB (HPa.out) hkp (fun k_ hk_ hs_ => (hk_.1.1.1.2.1) hs_)) (fun k_ hk_ => ⟨hk_.1.1.1.1.1, hk_.1.1.1.1.2.1, hk_.1.1.1.1.2.2.1, hk_.1.1.1.1.2.2.2, hk_.1.1.1.2, hk_.1.1.2, hk_.1.2⟩)); have n5_ := Aside0.mk (Kd.R_mono (ok' := fun k_ => some k_ ≠ (v255 : Value).ownBlock ∧ some k_ ≠ (.slice Ao49 t268.length co49 : Value).ownBlock ∧ some k_ ≠ (v272 : Value).ownBlock ∧ some k_ ≠ (.slice Ao41 t258.length co41 : Value).ownBlock ∧ some k_ ≠ (.slice Ao73 t276.length co73 : Value).ownBlock ∧ some k_ ≠ (.slice Ao74 t279.length co74 : Value).ownBlock ∧ some k_ ≠ (.slice Ao79 t287.length co79 : Value).ownBlock) (Kd.R_keptB (HPb.out) hkp (fun k_ hk_ hs_ => (hk_.1.1.1.2.1) hs_)) (fun k_ hk_ => ⟨hk_.1.1.1.1.1, hk_.1.1.1.1.2.1, hk_.1.1.1.1.2.2.1, hk_.1.1.1.1.2.2.2, hk_.1.1.1.2, hk_.1.1.2, hk_.1.2⟩)); have n6_ := Aside0.mk (blk_kept (by (with_reducible repeat refine blk_alloc ?_ _); exact BK239.out) hkp (fun hs_ => (fun e_ => (Kd.R_ne HO_14.out BK239.out (by decide)) e_) hs_)); have n7_ := Aside0.mk (blk_kept (by (with_reducible repeat refine blk_alloc ?_ _); exact BK264.out) hkp (fun hs_ => (fun e_ => (Kd.R_ne HO_14.out BK264.out (by decide)) e_) hs_)); have n8_ := Aside0.mk (Kd.R_mono (ok' := fun k_ => some k_ ≠ (v255 : Value).ownBlock ∧ some k_ ≠ (.slice Ao49 t268.length co49 : Value).ownBlock ∧ some k_ ≠ (v272 : Value).ownBlock ∧ some k_ ≠ (.slice Ao41 t258.length co41 : Value).ownBlock ∧ some k_ ≠ (.slice Ao44 t261.length co44 : Value).ownBlock ∧ some k_ ≠ (.slice Ao74 t279.length co74 : Value).ownBlock ∧ some k_ ≠ (.slice Ao79 t287.length co79 : Value).ownBlock) (Kd.R_keptB (HO278.out) hkp (fun k_ hk_ hs_ => (hk_.2.1) hs_)) (fun k_ hk_ => ⟨hk_.1.1, hk_.1.2.1, hk_.1.2.2.1, hk_.1.2.2.2.1, hk_.1.2.2.2.2.1, hk_.1.2.2.2.2.2.1, hk_.1.2.2.2.2.2.2⟩)); have n9_ := Aside0.mk (Kd.R_mono (ok' := fun k_ => some k_ ≠ (v255 : Value).ownBlock ∧ some k_ ≠ (.slice Ao49 t268.length co49 : Value).ownBlock ∧ some k_ ≠ (v272 : Value).ownBlock ∧ some k_ ≠ (.slice Ao41 t258.length co41 : Value).ownBlock ∧ some k_ ≠ (.slice Ao44 t261.length co44 : Value).ownBlock ∧ some k_ ≠ (.slice Ao73 t276.length co73 : Value).ownBlock ∧ some k_ ≠ (.slice Ao79 t287.length co79 : Value).ownBlock) (Kd.R_keptB (HO281.out) hkp (fun k_ hk_ hs_ => (hk_.2.1) hs_)) (fun k_ hk_ => ⟨hk_.1.1, hk_.1.2.1, hk_.1.2.2.1, hk_.1.2.2.2.1, hk_.1.2.2.2.2.1, hk_.1.2.2.2.2.2.1, hk_.1.2.2.2.2.2.2⟩)); have n10_ := Aside0.mk True.intro; have n11_ := Aside0.mk (Kd.R_mono (ok' := fun k_ => some k_ ≠ (v255 : Value).ownBlock ∧ some k_ ≠ (.slice Ao49 t268.length co49 : Value).ownBlock ∧ some k_ ≠ (v272 : Value).ownBlock ∧ some k_ ≠ (.slice Ao41 t258.length co41 : Value).ownBlock ∧ some k_ ≠ (.slice Ao44 t261.length co44 : Value).ownBlock ∧ some k_ ≠ (.slice Ao73 t276.length co73 : Value).ownBlock ∧ some k_ ≠ (.slice Ao74 t279.length co74 : Value).ownBlock) (Kd.R_keptB (HO289.out) hkp (fun k_ hk_ hs_ => (hk_.2.1) hs_)) (fun k_ hk_ => ⟨hk_.1.1, hk_.1.2.1, hk_.1.2.2.1, hk_.1.2.2.2.1, hk_.1.2.2.2.2.1, hk_.1.2.2.2.2.2.1, hk_.1.2.2.2.2.2.2⟩)); have n12_ := Aside0.mk (hb); clear HO_10; clear HO_13; clear HO_14; clear HO_15; clear HPa; clear HPb; clear BK239; clear BK264; clear HO278; clear HO281; clear HO285; clear HO289; clear HB; have HO_10 := n0_; have HO_13 := n1_; have HO_14 := n2_; have HO_15 := n3_; have HPa := n4_; have HPb := n5_; have BK239 := n6_; have BK264 := n7_; have HO278 := n8_; have HO281 := n9_; have HO285 := n10_; have HO289 := n11_; have HB := n12_; clear n0_ n1_ n2_ n3_ n4_ n5_ n6_ n7_ n8_ n9_ n10_ n11_ n12_; (try clear hb); (try clear hkp); (try clear hy0)))
          (try simp only [Act.put, List.setIfInBounds_toArray, List.set_cons_zero, List.set_cons_succ])
          go_cut [105] (fun v105 wc => ∃ (kq : Nat) (x105_69 : Bool), v105 = .bool x105_69 ∧ Aside0 (laws_FnExactCoverShift.j1 kq a1 l2 l3 t254 t257 t271 x105_69 l0_0 l0_1 = some r) ∧ Aside0 (kq ≤ kj24) ∧ Aside0 (Kd.R (Kd.int .i64) 3 wc w.heap.size (fun k_ => some k_ ≠ (v272 : Value).ownBlock ∧ some k_ ≠ ((.slice Ao41 t258.length co41) : Value).ownBlock ∧ some k_ ≠ ((.slice Ao44 t261.length co44) : Value).ownBlock) v255 t254) ∧ Aside0 (Kd.R (Kd.int .i64) 3 wc w.heap.size (fun k_ => some k_ ≠ (v255 : Value).ownBlock ∧ some k_ ≠ ((.slice Ao41 t258.length co41) : Value).ownBlock ∧ some k_ ≠ ((.slice Ao44 t261.length co44) : Value).ownBlock) v272 t271) ∧ Aside0 (Kd.R (Kd.int .i64) 3 wc w.heap.size (fun k_ => some k_ ≠ (v255 : Value).ownBlock ∧ some k_ ≠ (v272 : Value).ownBlock ∧ some k_ ≠ ((.slice Ao44 t261.length co44) : Value).ownBlock) (.slice Ao41 t258.length co41) t292) ∧ Aside0 (Kd.R (Kd.int .i64) 3 wc w.heap.size (fun k_ => some k_ ≠ (v255 : Value).ownBlock ∧ some k_ ≠ (v272 : Value).ownBlock ∧ some k_ ≠ ((.slice Ao41 t258.length co41) : Value).ownBlock) (.slice Ao44 t261.length co44) t293) ∧ Aside0 (wc.heap[gb239]? = some (.cells #[(.slice A0_0 l0_0.length c0_0), (.slice A0_1 l0_1.length c0_1)] 24 (0, 0))) ∧ Aside0 (wc.heap[gb264]? = some (.cells #[(.slice Ao41 t258.length co41), (.slice Ao44 t261.length co44)] 29 (0, 0))) ∧ Aside0 (Below w.heap.size w wc))
          case first =>
           have H := HC70.out
           clear HC70
           by_cases c85 : t295 < 0
           ·rw [if_pos c85] at H
            have c85b0 : decide (t295 < 0) = true := decide_eq_true c85
            clear c85
            (first | rw [c85b0] | (simp only [i64_w, i32_w]; rw [c85b0]) | skip)
            have H' := Aside0.mk H
            clear H
            go_wp2
            go_meet
            case rel => exact ⟨_, (true), (by first | rfl | (simp; done) | (simp [*]; done)), H', ⟨by have := HJ24.out; first | omega | exact Nat.le_refl _⟩, ⟨by (with_reducible repeat (first | apply Kd.R_alloc | apply Kd.R_drewN | apply Kd.R_drew)); exact Kd.R_mono HO_10.out (fun _ hk => ⟨hk.2.1, ⟨hk.2.2.1, hk.2.2.2.1⟩⟩)⟩, ⟨by (with_reducible repeat (first | apply Kd.R_alloc | apply Kd.R_drewN | apply Kd.R_drew)); exact Kd.R_mono HO_15.out (fun _ hk => ⟨hk.1, ⟨hk.2.2.1, hk.2.2.2.1⟩⟩)⟩, ⟨by (with_reducible repeat (first | apply Kd.R_alloc | apply Kd.R_drewN | apply Kd.R_drew)); exact Kd.R_mono HPa.out (fun _ hk => ⟨hk.1, ⟨hk.2.2.1, hk.2.2.2.1⟩⟩)⟩, ⟨by (with_reducible repeat (first | apply Kd.R_alloc | apply Kd.R_drewN | apply Kd.R_drew)); exact Kd.R_mono HPb.out (fun _ hk => ⟨hk.1, ⟨hk.2.2.1, hk.2.2.2.1⟩⟩)⟩, ⟨by (with_reducible repeat (first | refine blk_drewN ?_ _ | refine blk_drew ?_ | refine blk_alloc ?_ _)); exact BK239.out⟩, ⟨by (with_reducible repeat (first | refine blk_drewN ?_ _ | refine blk_drew ?_ | refine blk_alloc ?_ _)); exact BK264.out⟩, ⟨by repeat (first | (with_reducible first | exact HB.out | apply below_alloc | apply pw_below_drewN | apply below_drew1 | refine below_set ?_ GE239.out | refine below_set ?_ GE264.out) | exact HB.out)⟩⟩
           ·rw [if_neg c85] at H
            have c85b0 : decide (t295 < 0) = false := decide_eq_false c85
            clear c85
            (first | rw [c85b0] | (simp only [i64_w, i32_w]; rw [c85b0]) | skip)
            replace H := Option.bind_eq_some_iff.mp H
            obtain ⟨t297, A860, H⟩ := H
            replace H : (if t297 = true then (laws_FnExactCoverShift.j1 kj24 a1 l2 l3 t254 t257 t271 (t274 != t257) l0_0 l0_1) else (laws_FnExactCoverShift.j1 kj24 a1 l2 l3 t254 t257 t271 true l0_0 l0_1)) = some r := H
            have A86 := Aside0.mk A860
            clear A860
            by_cases c87 : t297 = true
            ·subst c87
             have H1 : (laws_FnExactCoverShift.j1 kj24 a1 l2 l3 t254 t257 t271 (t274 != t257) l0_0 l0_1) = some r := by rw [if_pos rfl] at H; exact H
             clear H
             have H := H1
             clear H1
             have H' := Aside0.mk H
             clear H
             obtain ⟨Ao88, co88, eo88⟩ := Kd.R_slice HO_15.out
             subst eo88
             obtain ⟨Ao89, co89, eo89⟩ := Kd.R_slice HO_10.out
             subst eo89
             go_wp2_with (first | (go_at_call 31; (with_reducible refine (laws_eqIntS.calls kj24 _ _ t271 _ _ t254 true _ ?side1 ?side2 ?side3 ?side4 A86.out).mono ?_); (case side1 => repeat (first | exact (Kd.R_reads' HO_15.out).2.2 | (with_reducible refine Kd.C_alloc ?_ _))); (case side2 => exact (Kd.R_reads' HO_15.out).2.1); (case side3 => repeat (first | exact (Kd.R_reads' HO_10.out).2.2 | (with_reducible refine Kd.C_alloc ?_ _))); (case side4 => exact (Kd.R_reads' HO_10.out).2.1); rintro e w' ⟨rfl, ⟨nd, rfl⟩⟩))
             go_meet
             case rel => exact ⟨_, ((t274 != t257)), (by first | rfl | (simp; done) | (simp [*]; done)), H', ⟨by have := HJ24.out; first | omega | exact Nat.le_refl _⟩, ⟨by (with_reducible repeat (first | apply Kd.R_alloc | apply Kd.R_drewN | apply Kd.R_drew)); exact Kd.R_mono HO_10.out (fun _ hk => ⟨hk.2.1, ⟨hk.2.2.1, hk.2.2.2.1⟩⟩)⟩, ⟨by (with_reducible repeat (first | apply Kd.R_alloc | apply Kd.R_drewN | apply Kd.R_drew)); exact Kd.R_mono HO_15.out (fun _ hk => ⟨hk.1, ⟨hk.2.2.1, hk.2.2.2.1⟩⟩)⟩, ⟨by (with_reducible repeat (first | apply Kd.R_alloc | apply Kd.R_drewN | apply Kd.R_drew)); exact Kd.R_mono HPa.out (fun _ hk => ⟨hk.1, ⟨hk.2.2.1, hk.2.2.2.1⟩⟩)⟩, ⟨by (with_reducible repeat (first | apply Kd.R_alloc | apply Kd.R_drewN | apply Kd.R_drew)); exact Kd.R_mono HPb.out (fun _ hk => ⟨hk.1, ⟨hk.2.2.1, hk.2.2.2.1⟩⟩)⟩, ⟨by (with_reducible repeat (first | refine blk_drewN ?_ _ | refine blk_drew ?_ | refine blk_alloc ?_ _)); exact BK239.out⟩, ⟨by (with_reducible repeat (first | refine blk_drewN ?_ _ | refine blk_drew ?_ | refine blk_alloc ?_ _)); exact BK264.out⟩, ⟨by repeat (first | (with_reducible first | exact HB.out | apply below_alloc | apply pw_below_drewN | apply below_drew1 | refine below_set ?_ GE239.out | refine below_set ?_ GE264.out) | exact HB.out)⟩⟩
            ·replace c87 := Bool.eq_false_iff.mpr c87
             subst c87
             have H1 : (laws_FnExactCoverShift.j1 kj24 a1 l2 l3 t254 t257 t271 true l0_0 l0_1) = some r := by rw [if_neg (show ¬ (false = true) by decide)] at H; exact H
             clear H
             have H := H1
             clear H1
             have H' := Aside0.mk H
             clear H
             obtain ⟨Ao90, co90, eo90⟩ := Kd.R_slice HO_15.out
             subst eo90
             obtain ⟨Ao91, co91, eo91⟩ := Kd.R_slice HO_10.out
             subst eo91
             go_wp2_with (first | (go_at_call 31; (with_reducible refine (laws_eqIntS.calls kj24 _ _ t271 _ _ t254 false _ ?side1 ?side2 ?side3 ?side4 A86.out).mono ?_); (case side1 => repeat (first | exact (Kd.R_reads' HO_15.out).2.2 | (with_reducible refine Kd.C_alloc ?_ _))); (case side2 => exact (Kd.R_reads' HO_15.out).2.1); (case side3 => repeat (first | exact (Kd.R_reads' HO_10.out).2.2 | (with_reducible refine Kd.C_alloc ?_ _))); (case side4 => exact (Kd.R_reads' HO_10.out).2.1); rintro e w' ⟨rfl, ⟨nd, rfl⟩⟩))
             go_meet
             case rel => exact ⟨_, (true), (by first | rfl | (simp; done) | (simp [*]; done)), H', ⟨by have := HJ24.out; first | omega | exact Nat.le_refl _⟩, ⟨by (with_reducible repeat (first | apply Kd.R_alloc | apply Kd.R_drewN | apply Kd.R_drew)); exact Kd.R_mono HO_10.out (fun _ hk => ⟨hk.2.1, ⟨hk.2.2.1, hk.2.2.2.1⟩⟩)⟩, ⟨by (with_reducible repeat (first | apply Kd.R_alloc | apply Kd.R_drewN | apply Kd.R_drew)); exact Kd.R_mono HO_15.out (fun _ hk => ⟨hk.1, ⟨hk.2.2.1, hk.2.2.2.1⟩⟩)⟩, ⟨by (with_reducible repeat (first | apply Kd.R_alloc | apply Kd.R_drewN | apply Kd.R_drew)); exact Kd.R_mono HPa.out (fun _ hk => ⟨hk.1, ⟨hk.2.2.1, hk.2.2.2.1⟩⟩)⟩, ⟨by (with_reducible repeat (first | apply Kd.R_alloc | apply Kd.R_drewN | apply Kd.R_drew)); exact Kd.R_mono HPb.out (fun _ hk => ⟨hk.1, ⟨hk.2.2.1, hk.2.2.2.1⟩⟩)⟩, ⟨by (with_reducible repeat (first | refine blk_drewN ?_ _ | refine blk_drew ?_ | refine blk_alloc ?_ _)); exact BK239.out⟩, ⟨by (with_reducible repeat (first | refine blk_drewN ?_ _ | refine blk_drew ?_ | refine blk_alloc ?_ _)); exact BK264.out⟩, ⟨by repeat (first | (with_reducible first | exact HB.out | apply below_alloc | apply pw_below_drewN | apply below_drew1 | refine below_set ?_ GE239.out | refine below_set ?_ GE264.out) | exact HB.out)⟩⟩
          case rest =>
           clear HC70
           try clear c1
           try clear c2
           try clear p2
           try clear c3
           try clear c4
           try clear c5
           try clear c5b0
           try clear c5b1
           try clear c6
           try clear c8
           try clear c8b0
           try clear c13
           try clear c13b0
           try clear c15
           try clear c16
           try clear c18
           try clear c19
           try clear c21
           try clear c22
           try clear c25
           try clear c26
           try clear c28
           try clear c29
           try clear c30
           try clear c31
           try clear c32
           try clear c42
           try clear c52
           try clear c57
           try clear c60
           try clear c63
           try clear c66
           try clear c80
           try clear c85
           try clear c85b0
           try clear c87
           try clear hcz10_0
           try clear hcz10_1
           try clear hcz15_0
           try clear hcz15_1
           try clear hcz27_0
           try clear hcz27_1
           try clear hcz29_0
           try clear hcz29_1
           try clear hcz38_0
           try clear hcz38_1
           try clear hcz43_0
           try clear hcz43_1
           try clear hcz47_0
           try clear hcz47_1
           try clear hcz81_0
           try clear hcz81_1
           try clear hfz10_0
           try clear hfz10_1
           try clear hfz15_0
           try clear hfz15_1
           try clear hfz27_0
           try clear hfz27_1
           try clear hfz29_0
           try clear hfz29_1
           try clear hfz38_0
           try clear hfz38_1
           try clear hfz43_0
           try clear hfz43_1
           try clear hfz47_0
           try clear hfz47_1
           try clear hfz81_0
           try clear hfz81_1
           try clear p2
           obtain ⟨kq, x105_69, rfl, HA, HJ69, HO_10, HO_15, HPa, HPb, BK239, BK264, HB⟩ := hcut
           have hl265000_69 := (Kd.R_reads' HPa.out).1
           rw [hl265000_69] at HPa
           (try simp only [hl265000_69])
           (try simp only [hl265000_69] at BK239)
           (try simp only [hl265000_69] at BK264)
           (try simp only [hl265000_69] at HO_10)
           (try simp only [hl265000_69] at HO_15)
           (try simp only [hl265000_69] at HPb)
           have hl265001_69 := (Kd.R_reads' HPb.out).1
           rw [hl265001_69] at HPb
           (try simp only [hl265001_69])
           (try simp only [hl265001_69] at BK239)
           (try simp only [hl265001_69] at BK264)
           (try simp only [hl265001_69] at HO_10)
           (try simp only [hl265001_69] at HO_15)
           (try simp only [hl265001_69] at HPa)
           cases kq with
           | zero => exact absurd HA.out (by simp [laws_FnExactCoverShift.j1])
           | succ kj69 =>
            have H := HA.out
            clear HA
            simp only [laws_FnExactCoverShift.j1] at H
            by_cases c92 : x105_69 = true
            ·subst c92
             have H1 : (some false) = some r := by rw [if_pos rfl] at H; exact H
             clear H
             have H := H1
             clear H1
             obtain rfl := Option.some.inj H
             go_wp2
             go_ret
             exact ⟨by first | rfl | (simp [errW_none, errW_some] <;> rfl) | (simp [*, errW_none, errW_some] <;> rfl), by repeat (first | (with_reducible first | exact HB.out | apply below_alloc | apply pw_below_drewN | apply below_drew1 | refine below_set ?_ GE239.out | refine below_set ?_ GE264.out) | exact HB.out)⟩
            ·replace c92 := Bool.eq_false_iff.mpr c92
             subst c92
             have H1 : ((laws_markIntS.f kj69 t271 1).bind fun bt298 => ((laws_heldIntS.f kj69 bt298.2 1).bind fun t300 => (if t300 < 0 then (some false) else (if t300 = bt298.1 then ((laws_toMap.f kj69 l0_0 l0_1).bind fun bt301 => ((laws_toIntSS.f kj69 l2).bind fun t307 => ((laws_toIntS.f kj69 l3).bind fun t310 => ((impl_CoverShift.f kj69 bt301.1 bt301.2 a1 t307 t310).bind fun bt313 => ((laws_eqIntS.f kj69 bt313.1 t254).bind fun t317 => (if t317 = true then (laws_FnExactCoverShift.j2 kj69 bt298.2 bt298.1 (bt313.2 != t257)) else (laws_FnExactCoverShift.j2 kj69 bt298.2 bt298.1 true))))))) else (some false))))) = some r := by rw [if_neg (show ¬ (false = true) by decide)] at H; exact H
             clear H
             have H := H1
             clear H1
             replace H := Option.bind_eq_some_iff.mp H
             obtain ⟨⟨t298, t299⟩, A930, H⟩ := H
             replace H : ((laws_heldIntS.f kj69 t299 1).bind fun t300 => (if t300 < 0 then (some false) else (if t300 = t298 then ((laws_toMap.f kj69 l0_0 l0_1).bind fun bt301 => ((laws_toIntSS.f kj69 l2).bind fun t307 => ((laws_toIntS.f kj69 l3).bind fun t310 => ((impl_CoverShift.f kj69 bt301.1 bt301.2 a1 t307 t310).bind fun bt313 => ((laws_eqIntS.f kj69 bt313.1 t254).bind fun t317 => (if t317 = true then (laws_FnExactCoverShift.j2 kj69 t299 t298 (bt313.2 != t257)) else (laws_FnExactCoverShift.j2 kj69 t299 t298 true))))))) else (some false)))) = some r := H
             have A93 := Aside0.mk A930
             clear A930
             replace H := Option.bind_eq_some_iff.mp H
             obtain ⟨t300, A940, H⟩ := H
             replace H : (if t300 < 0 then (some false) else (if t300 = t298 then ((laws_toMap.f kj69 l0_0 l0_1).bind fun bt301 => ((laws_toIntSS.f kj69 l2).bind fun t307 => ((laws_toIntS.f kj69 l3).bind fun t310 => ((impl_CoverShift.f kj69 bt301.1 bt301.2 a1 t307 t310).bind fun bt313 => ((laws_eqIntS.f kj69 bt313.1 t254).bind fun t317 => (if t317 = true then (laws_FnExactCoverShift.j2 kj69 t299 t298 (bt313.2 != t257)) else (laws_FnExactCoverShift.j2 kj69 t299 t298 true))))))) else (some false))) = some r := H
             have A94 := Aside0.mk A940
             clear A940
             by_cases c95 : t300 < 0
             ·rw [if_pos c95] at H
              have c95b0 : decide (t300 < 0) = true := decide_eq_true c95
              clear c95
              obtain rfl := Option.some.inj H
              obtain ⟨Ao96, co96, eo96⟩ := Kd.R_slice HO_15.out
              subst eo96
              go_wp2_with (first | ((with_reducible refine gate_callee (f := 32) rfl ?_); refine goesL_ (some 108) rfl rfl Try.func32 (by kernel_rfl) rfl #[.slice Ao96 t271.length co96, .int .i64 1] rfl (by (try simp only [List.map_toArray, List.map_cons, List.map_nil]); first | done | rfl | (simp only [List.length_drop, List.length_take]; rfl)) ?_; (with_reducible refine (laws_markIntS.calls kj69 (fun k_ => some k_ = (.slice Ao96 t271.length co96 : Value).ownBlock) (.slice Ao96 t271.length co96) t271 1 t298 t299 w _ ?side1 ?side2 A93.out).mono ?_); (case side1 => repeat (first | (with_reducible first | exact HB.out | apply below_alloc | apply pw_below_drewN | apply below_drew1 | refine below_set ?_ GE239.out | refine below_set ?_ GE264.out) | exact HB.out)); (case side2 => exact Kd.R_tight rfl HO_15.out); rintro e w97 ⟨rfl, hy0, hb, hkp⟩; refine ⟨_, rfl, ?_⟩; have n0_ := Aside0.mk (Kd.R_mono (ok' := fun k_ => some k_ ≠ (.slice Ao96 t271.length co96 : Value).ownBlock ∧ some k_ ≠ (.slice Ao41 t292.length co41 : Value).ownBlock ∧ some k_ ≠ (.slice Ao44 t293.length co44 : Value).ownBlock) (Kd.R_keptB (HO_10.out) hkp (fun k_ hk_ hs_ => (hk_.1) hs_)) (fun k_ hk_ => ⟨hk_.1.1, hk_.1.2.1, hk_.1.2.2⟩)); have n1_ := Aside0.mk (Kd.R_reok rfl hy0 (fun k_ e_ => HO_15.out.1 k_ e_)); have n2_ := Aside0.mk (Kd.R_mono (ok' := fun k_ => some k_ ≠ (v255 : Value).ownBlock ∧ some k_ ≠ (.slice Ao96 t271.length co96 : Value).ownBlock ∧ some k_ ≠ (.slice Ao44 t293.length co44 : Value).ownBlock) (Kd.R_keptB (HPa.out) hkp (fun k_ hk_ hs_ => (hk_.2.1) hs_)) (fun k_ hk_ => ⟨hk_.1.1, hk_.1.2.1, hk_.1.2.2⟩)); have n3_ := Aside0.mk (Kd.R_mono (ok' := fun k_ => some k_ ≠ (v255 : Value).ownBlock ∧ some k_ ≠ (.slice Ao96 t271.length co96 : Value).ownBlock ∧ some k_ ≠ (.slice Ao41 t292.length co41 : Value).ownBlock) (Kd.R_keptB (HPb.out) hkp (fun k_ hk_ hs_ => (hk_.2.1) hs_)) (fun k_ hk_ => ⟨hk_.1.1, hk_.1.2.1, hk_.1.2.2⟩)); have n4_ := Aside0.mk (blk_kept (by (with_reducible repeat refine blk_alloc ?_ _); exact BK239.out) hkp (fun hs_ => (fun e_ => (Kd.R_ne HO_15.out BK239.out (by decide)) e_) hs_)); have n5_ := Aside0.mk (blk_kept (by (with_reducible repeat refine blk_alloc ?_ _); exact BK264.out) hkp (fun hs_ => (fun e_ => (Kd.R_ne HO_15.out BK264.out (by decide)) e_) hs_)); have n6_ := Aside0.mk (hb); clear HO_10; clear HO_15; clear HPa; clear HPb; clear BK239; clear BK264; clear HB; have HO_10 := n0_; have HO_15 := n1_; have HPa := n2_; have HPb := n3_; have BK239 := n4_; have BK264 := n5_; have HB := n6_; clear n0_ n1_ n2_ n3_ n4_ n5_ n6_; (try clear hb); (try clear hkp); (try clear hy0)) | ((with_reducible refine gate_callee (f := 33) rfl ?_); refine goesL_ (some 111) rfl rfl Try.func33 (by kernel_rfl) rfl #[.slice Ao96 t299.length co96, .int .i64 1] rfl (by (try simp only [List.map_toArray, List.map_cons, List.map_nil]); first | done | (rw [show t299.length = t271.length from (Kd.R_reads' HO_15.out).1.symm] <;> rfl) | rfl | (simp only [List.length_drop, List.length_take]; rfl)) ?_; (with_reducible refine (laws_heldIntS.calls kj69 _ _ t299 1 t300 _ ?side1 ?side2 A94.out).mono ?_); (case side1 => repeat (first | exact (Kd.R_reads' HO_15.out).2.2 | (with_reducible refine Kd.C_alloc ?_ _))); (case side2 => rw [show t299.length = t271.length from (Kd.R_reads' HO_15.out).1.symm]; exact (Kd.R_reads' HO_15.out).2.1); rintro e w' ⟨rfl, ⟨nd, rfl⟩⟩; refine ⟨_, rfl, ?_⟩))
              go_ret
              exact ⟨by first | rfl | (simp [errW_none, errW_some] <;> rfl) | (simp [*, errW_none, errW_some] <;> rfl), by repeat (first | (with_reducible first | exact HB.out | apply below_alloc | apply pw_below_drewN | apply below_drew1 | refine below_set ?_ GE239.out | refine below_set ?_ GE264.out) | exact HB.out)⟩
             ·rw [if_neg c95] at H
              have c95b0 : decide (t300 < 0) = false := decide_eq_false c95
              clear c95
              by_cases c98 : t300 = t298
              ·rw [if_pos c98] at H
               have c98b0 : (t300 == t298) = true := beq_iff_eq.mpr c98
               have c98b1 : (t300 != t298) = false := bne_eq_false_iff_eq.mpr c98
               clear c98
               replace H := Option.bind_eq_some_iff.mp H
               obtain ⟨⟨t301, t304⟩, A990, H⟩ := H
               replace H : ((laws_toIntSS.f kj69 l2).bind fun t307 => ((laws_toIntS.f kj69 l3).bind fun t310 => ((impl_CoverShift.f kj69 t301 t304 a1 t307 t310).bind fun bt313 => ((laws_eqIntS.f kj69 bt313.1 t254).bind fun t317 => (if t317 = true then (laws_FnExactCoverShift.j2 kj69 t299 t298 (bt313.2 != t257)) else (laws_FnExactCoverShift.j2 kj69 t299 t298 true)))))) = some r := H
               have A99 := Aside0.mk A990
               clear A990
               replace H := Option.bind_eq_some_iff.mp H
               obtain ⟨t307, A1000, H⟩ := H
               replace H : ((laws_toIntS.f kj69 l3).bind fun t310 => ((impl_CoverShift.f kj69 t301 t304 a1 t307 t310).bind fun bt313 => ((laws_eqIntS.f kj69 bt313.1 t254).bind fun t317 => (if t317 = true then (laws_FnExactCoverShift.j2 kj69 t299 t298 (bt313.2 != t257)) else (laws_FnExactCoverShift.j2 kj69 t299 t298 true))))) = some r := H
               have A100 := Aside0.mk A1000
               clear A1000
               replace H := Option.bind_eq_some_iff.mp H
               obtain ⟨t310, A1010, H⟩ := H
               replace H : ((impl_CoverShift.f kj69 t301 t304 a1 t307 t310).bind fun bt313 => ((laws_eqIntS.f kj69 bt313.1 t254).bind fun t317 => (if t317 = true then (laws_FnExactCoverShift.j2 kj69 t299 t298 (bt313.2 != t257)) else (laws_FnExactCoverShift.j2 kj69 t299 t298 true)))) = some r := H
               have A101 := Aside0.mk A1010
               clear A1010
               replace H := Option.bind_eq_some_iff.mp H
               obtain ⟨⟨t313, t316⟩, A1020, H⟩ := H
               replace H : ((laws_eqIntS.f kj69 t313 t254).bind fun t317 => (if t317 = true then (laws_FnExactCoverShift.j2 kj69 t299 t298 (t316 != t257)) else (laws_FnExactCoverShift.j2 kj69 t299 t298 true))) = some r := H
               have A102 := Aside0.mk A1020
               clear A1020
               have HC103 := Aside0.mk H
               clear H
               obtain ⟨Ao104, co104, eo104⟩ := Kd.R_slice HO_15.out
               subst eo104
               go_upto_region 38 with (first | ((with_reducible refine gate_callee (f := 32) rfl ?_); refine goesL_ (some 108) rfl rfl Try.func32 (by kernel_rfl) rfl #[.slice Ao104 t271.length co104, .int .i64 1] rfl (by (try simp only [List.map_toArray, List.map_cons, List.map_nil]); first | done | rfl | (simp only [List.length_drop, List.length_take]; rfl)) ?_; (with_reducible refine (laws_markIntS.calls kj69 (fun k_ => some k_ = (.slice Ao104 t271.length co104 : Value).ownBlock) (.slice Ao104 t271.length co104) t271 1 t298 t299 w _ ?side1 ?side2 A93.out).mono ?_); (case side1 => repeat (first | (with_reducible first | exact HB.out | apply below_alloc | apply pw_below_drewN | apply below_drew1 | refine below_set ?_ GE239.out | refine below_set ?_ GE264.out) | exact HB.out)); (case side2 => exact Kd.R_tight rfl HO_15.out); rintro e w105 ⟨rfl, hy0, hb, hkp⟩; refine ⟨_, rfl, ?_⟩; have n0_ := Aside0.mk (Kd.R_mono (ok' := fun k_ => some k_ ≠ (.slice Ao104 t271.length co104 : Value).ownBlock ∧ some k_ ≠ (.slice Ao41 t292.length co41 : Value).ownBlock ∧ some k_ ≠ (.slice Ao44 t293.length co44 : Value).ownBlock) (Kd.R_keptB (HO_10.out) hkp (fun k_ hk_ hs_ => (hk_.1) hs_)) (fun k_ hk_ => ⟨hk_.1.1, hk_.1.2.1, hk_.1.2.2⟩)); have n1_ := Aside0.mk (Kd.R_reok rfl hy0 (fun k_ e_ => HO_15.out.1 k_ e_)); have n2_ := Aside0.mk (Kd.R_mono (ok' := fun k_ => some k_ ≠ (v255 : Value).ownBlock ∧ some k_ ≠ (.slice Ao104 t271.length co104 : Value).ownBlock ∧ some k_ ≠ (.slice Ao44 t293.length co44 : Value).ownBlock) (Kd.R_keptB (HPa.out) hkp (fun k_ hk_ hs_ => (hk_.2.1) hs_)) (fun k_ hk_ => ⟨hk_.1.1, hk_.1.2.1, hk_.1.2.2⟩)); have n3_ := Aside0.mk (Kd.R_mono (ok' := fun k_ => some k_ ≠ (v255 : Value).ownBlock ∧ some k_ ≠ (.slice Ao104 t271.length co104 : Value).ownBlock ∧ some k_ ≠ (.slice Ao41 t292.length co41 : Value).ownBlock) (Kd.R_keptB (HPb.out) hkp (fun k_ hk_ hs_ => (hk_.2.1) hs_)) (fun k_ hk_ => ⟨hk_.1.1, hk_.1.2.1, hk_.1.2.2⟩)); have n4_ := Aside0.mk (blk_kept (by (with_reducible repeat refine blk_alloc ?_ _); exact BK239.out) hkp (fun hs_ => (fun e_ => (Kd.R_ne HO_15.out BK239.out (by decide)) e_) hs_)); have n5_ := Aside0.mk (blk_kept (by (with_reducible repeat refine blk_alloc ?_ _); exact BK264.out) hkp (fun hs_ => (fun e_ => (Kd.R_ne HO_15.out BK264.out (by decide)) e_) hs_)); have n6_ := Aside0.mk (hb); clear HO_10; clear HO_15; clear HPa; clear HPb; clear BK239; clear BK264; clear HB; have HO_10 := n0_; have HO_15 := n1_; have HPa := n2_; have HPb := n3_; have BK239 := n4_; have BK264 := n5_; have HB := n6_; clear n0_ n1_ n2_ n3_ n4_ n5_ n6_; (try clear hb); (try clear hkp); (try clear hy0)) | ((with_reducible refine gate_callee (f := 33) rfl ?_); refine goesL_ (some 111) rfl rfl Try.func33 (by kernel_rfl) rfl #[.slice Ao104 t299.length co104, .int .i64 1] rfl (by (try simp only [List.map_toArray, List.map_cons, List.map_nil]); first | done | (rw [show t299.length = t271.length from (Kd.R_reads' HO_15.out).1.symm] <;> rfl) | rfl | (simp only [List.length_drop, List.length_take]; rfl)) ?_; (with_reducible refine (laws_heldIntS.calls kj69 _ _ t299 1 t300 _ ?side1 ?side2 A94.out).mono ?_); (case side1 => repeat (first | exact (Kd.R_reads' HO_15.out).2.2 | (with_reducible refine Kd.C_alloc ?_ _))); (case side2 => rw [show t299.length = t271.length from (Kd.R_reads' HO_15.out).1.symm]; exact (Kd.R_reads' HO_15.out).2.1); rintro e w' ⟨rfl, ⟨nd, rfl⟩⟩; refine ⟨_, rfl, ?_⟩; have hnb106 := NB239_264.out; have hnc106 := NB264_239.out; have hcz107_0 : w105.cell? ⟨gb239, 0, none⟩ = some (.slice A0_0 l0_0.length c0_0) := (blk_cell BK239.out 0).trans rfl; have hcz107_1 : w105.cell? ⟨gb239, 1, none⟩ = some (.slice A0_1 l0_1.length c0_1) := (blk_cell BK239.out 1).trans rfl; have hfz107_0 := blk_frozen BK239.out 0; have hfz107_1 := blk_frozen BK239.out 1) | ((with_reducible refine gate_callee (f := 18) rfl ?_); refine goesL_ (some 119) rfl rfl Try.func18 (by kernel_rfl) rfl #[.agg #[.slice A0_0 l0_0.length c0_0, .slice A0_1 l0_1.length c0_1]] rfl (by (try simp only [List.map_toArray, List.map_cons, List.map_nil]); first | done | rfl | (simp only [List.length_drop, List.length_take]; rfl)) ?_; (with_reducible refine (laws_toMap.calls kj69 _ _ l0_0 _ _ l0_1 t301 t304 _ ?side1 ?side2 ?side3 ?side4 A99.out).mono ?_); (case side1 => repeat (first | exact (Kd.C_below HR0_0.out (by repeat (first | (with_reducible first | exact HB.out | apply below_alloc | apply pw_below_drewN | apply below_drew1 | refine below_set ?_ GE239.out | refine below_set ?_ GE264.out) | exact HB.out))) | (with_reducible refine Kd.C_alloc ?_ _))); (case side2 => exact HC0_0.out); (case side3 => repeat (first | exact (Kd.C_below HR0_1.out (by repeat (first | (with_reducible first | exact HB.out | apply below_alloc | apply pw_below_drewN | apply below_drew1 | refine below_set ?_ GE239.out | refine below_set ?_ GE264.out) | exact HB.out))) | (with_reducible refine Kd.C_alloc ?_ _))); (case side4 => exact HC0_1.out); rintro e w108 ⟨v302, v305, rfl, ho0, ho1, hb⟩; refine ⟨_, rfl, ?_⟩; have n0_ := Aside0.mk (Kd.R_mono (Kd.R_told (Kd.R_told (Kd.R_old (by (with_reducible repeat apply Kd.R_alloc); exact HO_10.out) hb) (Kd.R_base ho0)) (Kd.R_base ho1)) (fun _ h_ => h_.1)); have n1_ := Aside0.mk (Kd.R_mono (Kd.R_told (Kd.R_told (Kd.R_old (by (with_reducible repeat apply Kd.R_alloc); exact HO_15.out) hb) (Kd.R_base ho0)) (Kd.R_base ho1)) (fun _ h_ => h_.1)); have n2_ := Aside0.mk (Kd.R_mono (Kd.R_told (Kd.R_told (Kd.R_old (by (with_reducible repeat apply Kd.R_alloc); exact HPa.out) hb) (Kd.R_base ho0)) (Kd.R_base ho1)) (fun _ h_ => h_.1)); have n3_ := Aside0.mk (Kd.R_mono (Kd.R_told (Kd.R_told (Kd.R_old (by (with_reducible repeat apply Kd.R_alloc); exact HPb.out) hb) (Kd.R_base ho0)) (Kd.R_base ho1)) (fun _ h_ => h_.1)); have n4_ := Aside0.mk (Kd.R_lower (Kd.R_new' (Kd.R_new' (Kd.R_new' (Kd.R_new' ho0 (Kd.R_lt (by (with_reducible repeat apply Kd.R_alloc); exact HO_10.out))) (Kd.R_lt (by (with_reducible repeat apply Kd.R_alloc); exact HO_15.out))) (Kd.R_lt (by (with_reducible repeat apply Kd.R_alloc); exact HPa.out))) (Kd.R_lt (by (with_reducible repeat apply Kd.R_alloc); exact HPb.out))) (below_size (by repeat (first | (with_reducible first | exact HB.out | apply below_alloc | apply pw_below_drewN | apply below_drew1 | refine below_set ?_ GE239.out | refine below_set ?_ GE264.out) | exact HB.out)))); have n5_ := Aside0.mk (Kd.R_lower (Kd.R_new' (Kd.R_new' (Kd.R_new' (Kd.R_new' ho1 (Kd.R_lt (by (with_reducible repeat apply Kd.R_alloc); exact HO_10.out))) (Kd.R_lt (by (with_reducible repeat apply Kd.R_alloc); exact HO_15.out))) (Kd.R_lt (by (with_reducible repeat apply Kd.R_alloc); exact HPa.out))) (Kd.R_lt (by (with_reducible repeat apply Kd.R_alloc); exact HPb.out))) (below_size (by repeat (first | (with_reducible first | exact HB.out | apply below_alloc | apply pw_below_drewN | apply below_drew1 | refine below_set ?_ GE239.out | refine below_set ?_ GE264.out) | exact HB.out)))); have n6_ := Aside0.mk (blk_below (g := gb239) (o := .cells #[.slice A0_0 l0_0.length c0_0, .slice A0_1 l0_1.length c0_1] 24 (0, 0)) (by (with_reducible repeat refine blk_alloc ?_ _); exact BK239.out) hb); have n7_ := Aside0.mk (blk_below (g := gb264) (o := .cells #[.slice Ao41 t292.length co41, .slice Ao44 t293.length co44] 29 (0, 0)) (by (with_reducible repeat refine blk_alloc ?_ _); exact BK264.out) hb); have n8_ := Aside0.mk (below_step (by repeat (first | (with_reducible first | exact HB.out | apply below_alloc | apply pw_below_drewN | apply below_drew1 | refine below_set ?_ GE239.out | refine below_set ?_ GE264.out) | exact HB.out)) hb); clear HO_10; clear HO_15; clear HPa; clear HPb; clear BK239; clear BK264; clear HB; have HO_10 := n0_; have HO_15 := n1_; have HPa := n2_; have HPb := n3_; have HO303 := n4_; have HO306 := n5_; have BK239 := n6_; have BK264 := n7_; have HB := n8_; clear n0_ n1_ n2_ n3_ n4_ n5_ n6_ n7_ n8_; (try clear hb); (try clear ho0); (try clear ho1)) | ((with_reducible refine gate_callee (f := 19) rfl ?_); refine goesL_ (some 122) rfl rfl Try.func19 (by kernel_rfl) rfl #[.slice A2 l2.length c2] rfl (by (try simp only [List.map_toArray, List.map_cons, List.map_nil]); first | done | rfl | (simp only [List.length_drop, List.length_take]; rfl)) ?_; (with_reducible refine (laws_toIntSS.calls kj69 _ _ l2 t307 _ ?side1 ?side2 A100.out).mono ?_); (case side1 => repeat (first | exact (Kd.C_below HR2.out HB.out) | (with_reducible refine Kd.C_alloc ?_ _))); (case side2 => exact HC2.out); rintro e w109 ⟨v308, rfl, ho0, hb⟩; refine ⟨_, rfl, ?_⟩; have n0_ := Aside0.mk (Kd.R_below (by (with_reducible repeat apply Kd.R_alloc); exact HO_10.out) hb); have n1_ := Aside0.mk (Kd.R_below (by (with_reducible repeat apply Kd.R_alloc); exact HO_15.out) hb); have n2_ := Aside0.mk (Kd.R_below (by (with_reducible repeat apply Kd.R_alloc); exact HPa.out) hb); have n3_ := Aside0.mk (Kd.R_below (by (with_reducible repeat apply Kd.R_alloc); exact HPb.out) hb); have n4_ := Aside0.mk (Kd.R_below (by (with_reducible repeat apply Kd.R_alloc); exact HO303.out) hb); have n5_ := Aside0.mk (Kd.R_below (by (with_reducible repeat apply Kd.R_alloc); exact HO306.out) hb); have n6_ := Aside0.mk (Kd.S_lower (Kd.S_new' (Kd.S_new' (Kd.S_new' (Kd.S_new' (Kd.S_new' (Kd.S_new' ho0 (Kd.R_lt (by (with_reducible repeat apply Kd.R_alloc); exact HO_10.out))) (Kd.R_lt (by (with_reducible repeat apply Kd.R_alloc); exact HO_15.out))) (Kd.R_lt (by (with_reducible repeat apply Kd.R_alloc); exact HPa.out))) (Kd.R_lt (by (with_reducible repeat apply Kd.R_alloc); exact HPb.out))) (Kd.R_lt (by (with_reducible repeat apply Kd.R_alloc); exact HO303.out))) (Kd.R_lt (by (with_reducible repeat apply Kd.R_alloc); exact HO306.out))) (below_size (by repeat (first | (with_reducible first | exact HB.out | apply below_alloc | apply pw_below_drewN | apply below_drew1 | refine below_set ?_ GE239.out | refine below_set ?_ GE264.out) | exact HB.out)))); have n7_ := Aside0.mk (blk_below (g := gb239) (o := .cells #[.slice A0_0 l0_0.length c0_0, .slice A0_1 l0_1.length c0_1] 24 (0, 0)) (by (with_reducible repeat refine blk_alloc ?_ _); exact BK239.out) hb); have n8_ := Aside0.mk (blk_below (g := gb264) (o := .cells #[.slice Ao41 t292.length co41, .slice Ao44 t293.length co44] 29 (0, 0)) (by (with_reducible repeat refine blk_alloc ?_ _); exact BK264.out) hb); have n9_ := Aside0.mk (below_step (by repeat (first | (with_reducible first | exact HB.out | apply below_alloc | apply pw_below_drewN | apply below_drew1 | refine below_set ?_ GE239.out | refine below_set ?_ GE264.out) | exact HB.out)) hb); clear HO_10; clear HO_15; clear HPa; clear HPb; clear HO303; clear HO306; clear BK239; clear BK264; clear HB; have HO_10 := n0_; have HO_15 := n1_; have HPa := n2_; have HPb := n3_; have HO303 := n4_; have HO306 := n5_; have HO309 := n6_; have BK239 := n7_; have BK264 := n8_; have HB := n9_; clear n0_ n1_ n2_ n3_ n4_ n5_ n6_ n7_ n8_ n9_; (try clear hb); (try clear ho0)) | ((with_reducible refine gate_callee (f := 29) rfl ?_); refine goesL_ (some 124) rfl rfl Try.func29 (by kernel_rfl) rfl #[.slice A3 l3.length c3] rfl (by (try simp only [List.map_toArray, List.map_cons, List.map_nil]); first | done | rfl | (simp only [List.length_drop, List.length_take]; rfl)) ?_; (with_reducible refine (laws_toIntS.calls kj69 _ _ l3 t310 _ ?side1 ?side2 A101.out).mono ?_); (case side1 => repeat (first | exact (Kd.C_below HR3.out HB.out) | (with_reducible refine Kd.C_alloc ?_ _))); (case side2 => exact HC3.out); rintro e w110 ⟨v311, rfl, ho0, hb⟩; refine ⟨_, rfl, ?_⟩; have n0_ := Aside0.mk (Kd.R_elder' (by (with_reducible repeat apply Kd.R_alloc); exact HO_10.out) (Kd.R_base ho0) hb); have n1_ := Aside0.mk (Kd.R_elder' (by (with_reducible repeat apply Kd.R_alloc); exact HO_15.out) (Kd.R_base ho0) hb); have n2_ := Aside0.mk (Kd.R_elder' (by (with_reducible repeat apply Kd.R_alloc); exact HPa.out) (Kd.R_base ho0) hb); have n3_ := Aside0.mk (Kd.R_elder' (by (with_reducible repeat apply Kd.R_alloc); exact HPb.out) (Kd.R_base ho0) hb); have n4_ := Aside0.mk (Kd.R_elder' (by (with_reducible repeat apply Kd.R_alloc); exact HO303.out) (Kd.R_base ho0) hb); have n5_ := Aside0.mk (Kd.R_elder' (by (with_reducible repeat apply Kd.R_alloc); exact HO306.out) (Kd.R_base ho0) hb); have n6_ := Aside0.mk (Kd.S_elder' (by (with_reducible repeat apply Kd.S_alloc); exact HO309.out) (Kd.R_base ho0) hb); have n7_ := Aside0.mk (Kd.R_lower (Kd.R_new' (Kd.R_new' (Kd.R_new' (Kd.R_new' (Kd.R_new' (Kd.R_new' ho0 (Kd.R_lt (by (with_reducible repeat apply Kd.R_alloc); exact HO_10.out))) (Kd.R_lt (by (with_reducible repeat apply Kd.R_alloc); exact HO_15.out))) (Kd.R_lt (by (with_reducible repeat apply Kd.R_alloc); exact HPa.out))) (Kd.R_lt (by (with_reducible repeat apply Kd.R_alloc); exact HPb.out))) (Kd.R_lt (by (with_reducible repeat apply Kd.R_alloc); exact HO303.out))) (Kd.R_lt (by (with_reducible repeat apply Kd.R_alloc); exact HO306.out))) (below_size (by repeat (first | (with_reducible first | exact HB.out | apply below_alloc | apply pw_below_drewN | apply below_drew1 | refine below_set ?_ GE239.out | refine below_set ?_ GE264.out) | exact HB.out)))); have n8_ := Aside0.mk (blk_below (g := gb239) (o := .cells #[.slice A0_0 l0_0.length c0_0, .slice A0_1 l0_1.length c0_1] 24 (0, 0)) (by (with_reducible repeat refine blk_alloc ?_ _); exact BK239.out) hb); have n9_ := Aside0.mk (blk_below (g := gb264) (o := .cells #[.slice Ao41 t292.length co41, .slice Ao44 t293.length co44] 29 (0, 0)) (by (with_reducible repeat refine blk_alloc ?_ _); exact BK264.out) hb); have n10_ := Aside0.mk (below_step (by repeat (first | (with_reducible first | exact HB.out | apply below_alloc | apply pw_below_drewN | apply below_drew1 | refine below_set ?_ GE239.out | refine below_set ?_ GE264.out) | exact HB.out)) hb); clear HO_10; clear HO_15; clear HPa; clear HPb; clear HO303; clear HO306; clear HO309; clear BK239; clear BK264; clear HB; have HO_10 := n0_; have HO_15 := n1_; have HPa := n2_; have HPb := n3_; have HO303 := n4_; have HO306 := n5_; have HO309 := n6_; have HO312 := n7_; have BK239 := n8_; have BK264 := n9_; have HB := n10_; clear n0_ n1_ n2_ n3_ n4_ n5_ n6_ n7_ n8_ n9_ n10_; (try clear hb); (try clear ho0); obtain ⟨Ao111, co111, eo111⟩ := Kd.R_slice HO303.out; subst eo111; obtain ⟨Ao112, co112, eo112⟩ := Kd.R_slice HO306.out; subst eo112; obtain ⟨Ao113, co113, eo113⟩ := Kd.S_slice HO309.out; subst eo113; obtain ⟨Ao114, co114, eo114⟩ := Kd.R_slice HO312.out; subst eo114) | ((with_reducible refine gate_callee (f := 30) rfl ?_); refine goesL_ (some 125) rfl rfl Try.func30 (by kernel_rfl) rfl #[.agg #[.slice Ao111 t301.length co111, .slice Ao112 t304.length co112], .int .i64 a1, .slice Ao113 t307.length co113, .slice Ao114 t310.length co114] rfl (by (try simp only [List.map_toArray, List.map_cons, List.map_nil]); first | done | rfl | (simp only [List.length_drop, List.length_take]; rfl)) ?_; (with_reducible refine (impl_CoverShift.calls kj69 _ _ t301 _ _ t304 a1 _ _ t307 _ _ t310 t313 t316 _ ?side1 ?side2 ?side3 ?side4 ?side5 ?side6 ?side7 ?side8 A102.out).mono ?_); (case side1 => repeat (first | exact (Kd.R_reads' HO303.out).2.2 | (with_reducible refine Kd.C_alloc ?_ _))); (case side2 => exact (Kd.R_reads' HO303.out).2.1); (case side3 => repeat (first | exact (Kd.R_reads' HO306.out).2.2 | (with_reducible refine Kd.C_alloc ?_ _))); (case side4 => exact (Kd.R_reads' HO306.out).2.1); (case side5 => repeat (first | exact (Kd.S_reads' HO309.out).2.2 | (with_reducible refine Kd.C_alloc ?_ _))); (case side6 => exact (Kd.S_reads' HO309.out).2.1); (case side7 => repeat (first | exact (Kd.R_reads' HO312.out).2.2 | (with_reducible refine Kd.C_alloc ?_ _))); (case side8 => exact (Kd.R_reads' HO312.out).2.1); rintro e w115 ⟨v314, rfl, ho0, hb⟩; refine ⟨_, rfl, ?_⟩; have n0_ := Aside0.mk (Kd.R_elder' (by (with_reducible repeat apply Kd.R_alloc); exact HO_10.out) (Kd.R_base ho0) hb); have n1_ := Aside0.mk (Kd.R_elder' (by (with_reducible repeat apply Kd.R_alloc); exact HO_15.out) (Kd.R_base ho0) hb); have n2_ := Aside0.mk (Kd.R_elder' (by (with_reducible repeat apply Kd.R_alloc); exact HPa.out) (Kd.R_base ho0) hb); have n3_ := Aside0.mk (Kd.R_elder' (by (with_reducible repeat apply Kd.R_alloc); exact HPb.out) (Kd.R_base ho0) hb); have n4_ := Aside0.mk (Kd.R_elder' (by (with_reducible repeat apply Kd.R_alloc); exact HO303.out) (Kd.R_base ho0) hb); have n5_ := Aside0.mk (Kd.R_elder' (by (with_reducible repeat apply Kd.R_alloc); exact HO306.out) (Kd.R_base ho0) hb); have n6_ := Aside0.mk (Kd.S_elder' (by (with_reducible repeat apply Kd.S_alloc); exact HO309.out) (Kd.R_base ho0) hb); have n7_ := Aside0.mk (Kd.R_elder' (by (with_reducible repeat apply Kd.R_alloc); exact HO312.out) (Kd.R_base ho0) hb); have n8_ := Aside0.mk (Kd.R_lower (Kd.R_new' (Kd.R_new' (Kd.R_new' (Kd.R_new' (Kd.R_new' (Kd.R_new' (Kd.R_new' ho0 (Kd.R_lt (by (with_reducible repeat apply Kd.R_alloc); exact HO_10.out))) (Kd.R_lt (by (with_reducible repeat apply Kd.R_alloc); exact HO_15.out))) (Kd.R_lt (by (with_reducible repeat apply Kd.R_alloc); exact HPa.out))) (Kd.R_lt (by (with_reducible repeat apply Kd.R_alloc); exact HPb.out))) (Kd.R_lt (by (with_reducible repeat apply Kd.R_alloc); exact HO303.out))) (Kd.R_lt (by (with_reducible repeat apply Kd.R_alloc); exact HO306.out))) (Kd.R_lt (by (with_reducible repeat apply Kd.R_alloc); exact HO312.out))) (below_size (by repeat (first | (with_reducible first | exact HB.out | apply below_alloc | apply pw_below_drewN | apply below_drew1 | refine below_set ?_ GE239.out | refine below_set ?_ GE264.out) | exact HB.out)))); have n9_ := Aside0.mk (blk_below (g := gb239) (o := .cells #[.slice A0_0 l0_0.length c0_0, .slice A0_1 l0_1.length c0_1] 24 (0, 0)) (by (with_reducible repeat refine blk_alloc ?_ _); exact BK239.out) hb); have n10_ := Aside0.mk (blk_below (g := gb264) (o := .cells #[.slice Ao41 t292.length co41, .slice Ao44 t293.length co44] 29 (0, 0)) (by (with_reducible repeat refine blk_alloc ?_ _); exact BK264.out) hb); have n11_ := Aside0.mk (below_step (by repeat (first | (with_reducible first | exact HB.out | apply below_alloc | apply pw_below_drewN | apply below_drew1 | refine below_set ?_ GE239.out | refine below_set ?_ GE264.out) | exact HB.out)) hb); clear HO_10; clear HO_15; clear HPa; clear HPb; clear HO303; clear HO306; clear HO309; clear HO312; clear BK239; clear BK264; clear HB; have HO_10 := n0_; have HO_15 := n1_; have HPa := n2_; have HPb := n3_; have HO303 := n4_; have HO306 := n5_; have HO309 := n6_; have HO312 := n7_; have HO315 := n8_; have BK239 := n9_; have BK264 := n10_; have HB := n11_; clear n0_ n1_ n2_ n3_ n4_ n5_ n6_ n7_ n8_ n9_ n10_ n11_; (try clear hb); (try clear ho0)))
               (try simp only [Act.put, List.setIfInBounds_toArray, List.set_cons_zero, List.set_cons_succ])
               go_cut [136] (fun v136 wc => ∃ (kq : Nat) (x136_102 : Bool), v136 = .bool x136_102 ∧ Aside0 (laws_FnExactCoverShift.j2 kq t299 t298 x136_102 = some r) ∧ Aside0 (kq ≤ kj69) ∧ Aside0 (Kd.R (Kd.int .i64) 3 wc w.heap.size (fun k_ => some k_ ≠ ((.slice Ao41 t292.length co41) : Value).ownBlock ∧ some k_ ≠ ((.slice Ao44 t293.length co44) : Value).ownBlock) (.slice Ao104 t271.length co104) t299) ∧ Aside0 (Kd.R (Kd.int .i64) 3 wc w.heap.size (fun k_ => some k_ ≠ ((.slice Ao104 t271.length co104) : Value).ownBlock ∧ some k_ ≠ ((.slice Ao44 t293.length co44) : Value).ownBlock) (.slice Ao41 t292.length co41) t292) ∧ Aside0 (Kd.R (Kd.int .i64) 3 wc w.heap.size (fun k_ => some k_ ≠ ((.slice Ao104 t271.length co104) : Value).ownBlock ∧ some k_ ≠ ((.slice Ao41 t292.length co41) : Value).ownBlock) (.slice Ao44 t293.length co44) t293) ∧ Aside0 (wc.heap[gb239]? = some (.cells #[(.slice A0_0 l0_0.length c0_0), (.slice A0_1 l0_1.length c0_1)] 24 (0, 0))) ∧ Aside0 (wc.heap[gb264]? = some (.cells #[(.slice Ao41 t292.length co41), (.slice Ao44 t293.length co44)] 29 (0, 0))) ∧ Aside0 (Below w.heap.size w wc))
               case first =>
                have H := HC103.out
                clear HC103
                replace H := Option.bind_eq_some_iff.mp H
                obtain ⟨t317, A1160, H⟩ := H
                replace H : (if t317 = true then (laws_FnExactCoverShift.j2 kj69 t299 t298 (t316 != t257)) else (laws_FnExactCoverShift.j2 kj69 t299 t298 true)) = some r := H
                have A116 := Aside0.mk A1160
                clear A1160
                by_cases c117 : t317 = true
                ·subst c117
                 have H1 : (laws_FnExactCoverShift.j2 kj69 t299 t298 (t316 != t257)) = some r := by rw [if_pos rfl] at H; exact H
                 clear H
                 have H := H1
                 clear H1
                 have H' := Aside0.mk H
                 clear H
                 obtain ⟨Ao118, co118, eo118⟩ := Kd.R_slice HO315.out
                 subst eo118
                 obtain ⟨Ao119, co119, eo119⟩ := Kd.R_slice HO_10.out
                 subst eo119
                 go_wp2_with (first | ((with_reducible refine gate_callee (f := 31) rfl ?_); refine goesL_ (some 130) rfl rfl Try.func31 (by kernel_rfl) rfl #[.slice Ao118 t313.length co118, .slice Ao119 t254.length co119] rfl (by (try simp only [List.map_toArray, List.map_cons, List.map_nil]); first | done | rfl | (simp only [List.length_drop, List.length_take]; rfl)) ?_; (with_reducible refine (laws_eqIntS.calls kj69 _ _ t313 _ _ t254 true _ ?side1 ?side2 ?side3 ?side4 A116.out).mono ?_); (case side1 => repeat (first | exact (Kd.R_reads' HO315.out).2.2 | (with_reducible refine Kd.C_alloc ?_ _))); (case side2 => exact (Kd.R_reads' HO315.out).2.1); (case side3 => repeat (first | exact (Kd.R_reads' HO_10.out).2.2 | (with_reducible refine Kd.C_alloc ?_ _))); (case side4 => exact (Kd.R_reads' HO_10.out).2.1); rintro e w' ⟨rfl, ⟨nd, rfl⟩⟩; refine ⟨_, rfl, ?_⟩))
                 go_meet
                 case rel => exact ⟨_, ((t316 != t257)), (by first | rfl | (simp; done) | (simp [*]; done)), H', ⟨by have := HJ24.out; have := HJ69.out; first | omega | exact Nat.le_refl _⟩, ⟨by (try simp only [hl265000_69]); (try simp only [hl265001_69]); (with_reducible repeat (first | apply Kd.R_alloc | apply Kd.R_drewN | apply Kd.R_drew)); exact Kd.R_mono HO_15.out (fun _ hk => ⟨hk.1.1.1.1.2.1, hk.1.1.1.1.2.2⟩)⟩, ⟨by (try simp only [hl265000_69]); (try simp only [hl265001_69]); (with_reducible repeat (first | apply Kd.R_alloc | apply Kd.R_drewN | apply Kd.R_drew)); exact Kd.R_mono HPa.out (fun _ hk => ⟨hk.1.1.1.1.2.1, hk.1.1.1.1.2.2⟩)⟩, ⟨by (try simp only [hl265000_69]); (try simp only [hl265001_69]); (with_reducible repeat (first | apply Kd.R_alloc | apply Kd.R_drewN | apply Kd.R_drew)); exact Kd.R_mono HPb.out (fun _ hk => ⟨hk.1.1.1.1.2.1, hk.1.1.1.1.2.2⟩)⟩, ⟨by (try simp only [hl265000_69]); (try simp only [hl265001_69]); (with_reducible repeat (first | refine blk_drewN ?_ _ | refine blk_drew ?_ | refine blk_alloc ?_ _)); exact BK239.out⟩, ⟨by (try simp only [hl265000_69]); (try simp only [hl265001_69]); (with_reducible repeat (first | refine blk_drewN ?_ _ | refine blk_drew ?_ | refine blk_alloc ?_ _)); exact BK264.out⟩, ⟨by repeat (first | (with_reducible first | exact HB.out | apply below_alloc | apply pw_below_drewN | apply below_drew1 | refine below_set ?_ GE239.out | refine below_set ?_ GE264.out) | exact HB.out)⟩⟩
                ·replace c117 := Bool.eq_false_iff.mpr c117
                 subst c117
                 have H1 : (laws_FnExactCoverShift.j2 kj69 t299 t298 true) = some r := by rw [if_neg (show ¬ (false = true) by decide)] at H; exact H
                 clear H
                 have H := H1
                 clear H1
                 have H' := Aside0.mk H
                 clear H
                 obtain ⟨Ao120, co120, eo120⟩ := Kd.R_slice HO315.out
                 subst eo120
                 obtain ⟨Ao121, co121, eo121⟩ := Kd.R_slice HO_10.out
                 subst eo121
                 go_wp2_with (first | ((with_reducible refine gate_callee (f := 31) rfl ?_); refine goesL_ (some 130) rfl rfl Try.func31 (by kernel_rfl) rfl #[.slice Ao120 t313.length co120, .slice Ao121 t254.length co121] rfl (by (try simp only [List.map_toArray, List.map_cons, List.map_nil]); first | done | rfl | (simp only [List.length_drop, List.length_take]; rfl)) ?_; (with_reducible refine (laws_eqIntS.calls kj69 _ _ t313 _ _ t254 false _ ?side1 ?side2 ?side3 ?side4 A116.out).mono ?_); (case side1 => repeat (first | exact (Kd.R_reads' HO315.out).2.2 | (with_reducible refine Kd.C_alloc ?_ _))); (case side2 => exact (Kd.R_reads' HO315.out).2.1); (case side3 => repeat (first | exact (Kd.R_reads' HO_10.out).2.2 | (with_reducible refine Kd.C_alloc ?_ _))); (case side4 => exact (Kd.R_reads' HO_10.out).2.1); rintro e w' ⟨rfl, ⟨nd, rfl⟩⟩; refine ⟨_, rfl, ?_⟩))
                 go_meet
                 case rel => exact ⟨_, (true), (by first | rfl | (simp; done) | (simp [*]; done)), H', ⟨by have := HJ24.out; have := HJ69.out; first | omega | exact Nat.le_refl _⟩, ⟨by (try simp only [hl265000_69]); (try simp only [hl265001_69]); (with_reducible repeat (first | apply Kd.R_alloc | apply Kd.R_drewN | apply Kd.R_drew)); exact Kd.R_mono HO_15.out (fun _ hk => ⟨hk.1.1.1.1.2.1, hk.1.1.1.1.2.2⟩)⟩, ⟨by (try simp only [hl265000_69]); (try simp only [hl265001_69]); (with_reducible repeat (first | apply Kd.R_alloc | apply Kd.R_drewN | apply Kd.R_drew)); exact Kd.R_mono HPa.out (fun _ hk => ⟨hk.1.1.1.1.2.1, hk.1.1.1.1.2.2⟩)⟩, ⟨by (try simp only [hl265000_69]); (try simp only [hl265001_69]); (with_reducible repeat (first | apply Kd.R_alloc | apply Kd.R_drewN | apply Kd.R_drew)); exact Kd.R_mono HPb.out (fun _ hk => ⟨hk.1.1.1.1.2.1, hk.1.1.1.1.2.2⟩)⟩, ⟨by (try simp only [hl265000_69]); (try simp only [hl265001_69]); (with_reducible repeat (first | refine blk_drewN ?_ _ | refine blk_drew ?_ | refine blk_alloc ?_ _)); exact BK239.out⟩, ⟨by (try simp only [hl265000_69]); (try simp only [hl265001_69]); (with_reducible repeat (first | refine blk_drewN ?_ _ | refine blk_drew ?_ | refine blk_alloc ?_ _)); exact BK264.out⟩, ⟨by repeat (first | (with_reducible first | exact HB.out | apply below_alloc | apply pw_below_drewN | apply below_drew1 | refine below_set ?_ GE239.out | refine below_set ?_ GE264.out) | exact HB.out)⟩⟩
               case rest =>
                clear HC103
                try clear c1
                try clear c2
                try clear p2
                try clear c3
                try clear c4
                try clear c5
                try clear c5b0
                try clear c5b1
                try clear c6
                try clear c8
                try clear c8b0
                try clear c9
                try clear c10
                try clear c11
                try clear c13
                try clear c13b0
                try clear c15
                try clear c16
                try clear c18
                try clear c19
                try clear c21
                try clear c22
                try clear c25
                try clear c26
                try clear c28
                try clear c29
                try clear c30
                try clear c31
                try clear c32
                try clear c33
                try clear c42
                try clear c52
                try clear c57
                try clear c60
                try clear c63
                try clear c66
                try clear c80
                try clear c85
                try clear c85b0
                try clear c87
                try clear c92
                try clear c95
                try clear c95b0
                try clear c98
                try clear c98b0
                try clear c98b1
                try clear c106
                try clear c117
                try clear hcz107_0
                try clear hcz107_1
                try clear hcz10_0
                try clear hcz10_1
                try clear hcz15_0
                try clear hcz15_1
                try clear hcz27_0
                try clear hcz27_1
                try clear hcz29_0
                try clear hcz29_1
                try clear hcz38_0
                try clear hcz38_1
                try clear hcz43_0
                try clear hcz43_1
                try clear hcz47_0
                try clear hcz47_1
                try clear hcz81_0
                try clear hcz81_1
                try clear hfz107_0
                try clear hfz107_1
                try clear hfz10_0
                try clear hfz10_1
                try clear hfz15_0
                try clear hfz15_1
                try clear hfz27_0
                try clear hfz27_1
                try clear hfz29_0
                try clear hfz29_1
                try clear hfz38_0
                try clear hfz38_1
                try clear hfz43_0
                try clear hfz43_1
                try clear hfz47_0
                try clear hfz47_1
                try clear hfz81_0
                try clear hfz81_1
                try clear p2
                obtain ⟨kq, x136_102, rfl, HA, HJ102, HO_15, HPa, HPb, BK239, BK264, HB⟩ := hcut
                have hl15_102 := (Kd.R_reads' HO_15.out).1
                rw [hl15_102] at HO_15
                (try simp only [hl15_102])
                (try simp only [hl15_102] at BK239)
                (try simp only [hl15_102] at BK264)
                (try simp only [hl15_102] at HPa)
                (try simp only [hl15_102] at HPb)
                cases kq with
                | zero => exact absurd HA.out (by simp [laws_FnExactCoverShift.j2])
                | succ kj102 =>
                 have H := HA.out
                 clear HA
                 simp only [laws_FnExactCoverShift.j2] at H
                 by_cases c122 : x136_102 = true
                 ·subst c122
                  have H1 : (some false) = some r := by rw [if_pos rfl] at H; exact H
                  clear H
                  have H := H1
                  clear H1
                  obtain rfl := Option.some.inj H
                  go_wp2
                  go_ret
                  exact ⟨by first | rfl | (simp [errW_none, errW_some] <;> rfl) | (simp [*, errW_none, errW_some] <;> rfl), by repeat (first | (with_reducible first | exact HB.out | apply below_alloc | apply pw_below_drewN | apply below_drew1 | refine below_set ?_ GE239.out | refine below_set ?_ GE264.out) | exact HB.out)⟩
                 ·replace c122 := Bool.eq_false_iff.mpr c122
                  subst c122
                  have H1 : ((laws_heldIntS.f kj102 t299 1).bind fun t318 => (if t318 < 0 then (some false) else (if t318 = t298 then (some true) else (some false)))) = some r := by rw [if_neg (show ¬ (false = true) by decide)] at H; exact H
                  clear H
                  have H := H1
                  clear H1
                  replace H := Option.bind_eq_some_iff.mp H
                  obtain ⟨t318, A1230, H⟩ := H
                  replace H : (if t318 < 0 then (some false) else (if t318 = t298 then (some true) else (some false))) = some r := H
                  have A123 := Aside0.mk A1230
                  clear A1230
                  by_cases c124 : t318 < 0
                  ·rw [if_pos c124] at H
                   have c124b0 : decide (t318 < 0) = true := decide_eq_true c124
                   clear c124
                   obtain rfl := Option.some.inj H
                   go_wp2_with (first | ((with_reducible refine gate_callee (f := 33) rfl ?_); refine goesL_ (some 139) rfl rfl Try.func33 (by kernel_rfl) rfl #[.slice Ao104 t299.length co104, .int .i64 1] rfl (by (try simp only [List.map_toArray, List.map_cons, List.map_nil]); first | done | rfl | (simp only [List.length_drop, List.length_take]; rfl)) ?_; (with_reducible refine (laws_heldIntS.calls kj102 _ _ t299 1 t318 _ ?side1 ?side2 A123.out).mono ?_); (case side1 => repeat (first | exact (Kd.R_reads' HO_15.out).2.2 | (with_reducible refine Kd.C_alloc ?_ _))); (case side2 => exact (Kd.R_reads' HO_15.out).2.1); rintro e w' ⟨rfl, ⟨nd, rfl⟩⟩; refine ⟨_, rfl, ?_⟩))
                   go_ret
                   exact ⟨by first | rfl | (simp [errW_none, errW_some] <;> rfl) | (simp [*, errW_none, errW_some] <;> rfl), by repeat (first | (with_reducible first | exact HB.out | apply below_alloc | apply pw_below_drewN | apply below_drew1 | refine below_set ?_ GE239.out | refine below_set ?_ GE264.out) | exact HB.out)⟩
                  ·rw [if_neg c124] at H
                   have c124b0 : decide (t318 < 0) = false := decide_eq_false c124
                   clear c124
                   by_cases c125 : t318 = t298
                   ·rw [if_pos c125] at H
                    have c125b0 : (t318 == t298) = true := beq_iff_eq.mpr c125
                    have c125b1 : (t318 != t298) = false := bne_eq_false_iff_eq.mpr c125
                    clear c125
                    obtain rfl := Option.some.inj H
                    go_wp2_with (first | ((with_reducible refine gate_callee (f := 33) rfl ?_); refine goesL_ (some 139) rfl rfl Try.func33 (by kernel_rfl) rfl #[.slice Ao104 t299.length co104, .int .i64 1] rfl (by (try simp only [List.map_toArray, List.map_cons, List.map_nil]); first | done | rfl | (simp only [List.length_drop, List.length_take]; rfl)) ?_; (with_reducible refine (laws_heldIntS.calls kj102 _ _ t299 1 t318 _ ?side1 ?side2 A123.out).mono ?_); (case side1 => repeat (first | exact (Kd.R_reads' HO_15.out).2.2 | (with_reducible refine Kd.C_alloc ?_ _))); (case side2 => exact (Kd.R_reads' HO_15.out).2.1); rintro e w' ⟨rfl, ⟨nd, rfl⟩⟩; refine ⟨_, rfl, ?_⟩))
                    go_ret
                    exact ⟨by first | rfl | (simp [errW_none, errW_some] <;> rfl) | (simp [*, errW_none, errW_some] <;> rfl), by repeat (first | (with_reducible first | exact HB.out | apply below_alloc | apply pw_below_drewN | apply below_drew1 | refine below_set ?_ GE239.out | refine below_set ?_ GE264.out) | exact HB.out)⟩
                   ·rw [if_neg c125] at H
                    have c125b0 : (t318 == t298) = false := beq_eq_false_iff_ne.mpr c125
                    have c125b1 : (t318 != t298) = true := bne_iff_ne.mpr c125
                    obtain rfl := Option.some.inj H
                    go_wp2_with (first | ((with_reducible refine gate_callee (f := 33) rfl ?_); refine goesL_ (some 139) rfl rfl Try.func33 (by kernel_rfl) rfl #[.slice Ao104 t299.length co104, .int .i64 1] rfl (by (try simp only [List.map_toArray, List.map_cons, List.map_nil]); first | done | rfl | (simp only [List.length_drop, List.length_take]; rfl)) ?_; (with_reducible refine (laws_heldIntS.calls kj102 _ _ t299 1 t318 _ ?side1 ?side2 A123.out).mono ?_); (case side1 => repeat (first | exact (Kd.R_reads' HO_15.out).2.2 | (with_reducible refine Kd.C_alloc ?_ _))); (case side2 => exact (Kd.R_reads' HO_15.out).2.1); rintro e w' ⟨rfl, ⟨nd, rfl⟩⟩; refine ⟨_, rfl, ?_⟩))
                    go_ret
                    exact ⟨by first | rfl | (simp [errW_none, errW_some] <;> rfl) | (simp [*, errW_none, errW_some] <;> rfl), by repeat (first | (with_reducible first | exact HB.out | apply below_alloc | apply pw_below_drewN | apply below_drew1 | refine below_set ?_ GE239.out | refine below_set ?_ GE264.out) | exact HB.out)⟩
              ·rw [if_neg c98] at H
               have c98b0 : (t300 == t298) = false := beq_eq_false_iff_ne.mpr c98
               have c98b1 : (t300 != t298) = true := bne_iff_ne.mpr c98
               obtain rfl := Option.some.inj H
               obtain ⟨Ao126, co126, eo126⟩ := Kd.R_slice HO_15.out
               subst eo126
               go_wp2_with (first | ((with_reducible refine gate_callee (f := 32) rfl ?_); refine goesL_ (some 108) rfl rfl Try.func32 (by kernel_rfl) rfl #[.slice Ao126 t271.length co126, .int .i64 1] rfl (by (try simp only [List.map_toArray, List.map_cons, List.map_nil]); first | done | rfl | (simp only [List.length_drop, List.length_take]; rfl)) ?_; (with_reducible refine (laws_markIntS.calls kj69 (fun k_ => some k_ = (.slice Ao126 t271.length co126 : Value).ownBlock) (.slice Ao126 t271.length co126) t271 1 t298 t299 w _ ?side1 ?side2 A93.out).mono ?_); (case side1 => repeat (first | (with_reducible first | exact HB.out | apply below_alloc | apply pw_below_drewN | apply below_drew1 | refine below_set ?_ GE239.out | refine below_set ?_ GE264.out) | exact HB.out)); (case side2 => exact Kd.R_tight rfl HO_15.out); rintro e w127 ⟨rfl, hy0, hb, hkp⟩; refine ⟨_, rfl, ?_⟩; have n0_ := Aside0.mk (Kd.R_mono (ok' := fun k_ => some k_ ≠ (.slice Ao126 t271.length co126 : Value).ownBlock ∧ some k_ ≠ (.slice Ao41 t292.length co41 : Value).ownBlock ∧ some k_ ≠ (.slice Ao44 t293.length co44 : Value).ownBlock) (Kd.R_keptB (HO_10.out) hkp (fun k_ hk_ hs_ => (hk_.1) hs_)) (fun k_ hk_ => ⟨hk_.1.1, hk_.1.2.1, hk_.1.2.2⟩)); have n1_ := Aside0.mk (Kd.R_reok rfl hy0 (fun k_ e_ => HO_15.out.1 k_ e_)); have n2_ := Aside0.mk (Kd.R_mono (ok' := fun k_ => some k_ ≠ (v255 : Value).ownBlock ∧ some k_ ≠ (.slice Ao126 t271.length co126 : Value).ownBlock ∧ some k_ ≠ (.slice Ao44 t293.length co44 : Value).ownBlock) (Kd.R_keptB (HPa.out) hkp (fun k_ hk_ hs_ => (hk_.2.1) hs_)) (fun k_ hk_ => ⟨hk_.1.1, hk_.1.2.1, hk_.1.2.2⟩)); have n3_ := Aside0.mk (Kd.R_mono (ok' := fun k_ => some k_ ≠ (v255 : Value).ownBlock ∧ some k_ ≠ (.slice Ao126 t271.length co126 : Value).ownBlock ∧ some k_ ≠ (.slice Ao41 t292.length co41 : Value).ownBlock) (Kd.R_keptB (HPb.out) hkp (fun k_ hk_ hs_ => (hk_.2.1) hs_)) (fun k_ hk_ => ⟨hk_.1.1, hk_.1.2.1, hk_.1.2.2⟩)); have n4_ := Aside0.mk (blk_kept (by (with_reducible repeat refine blk_alloc ?_ _); exact BK239.out) hkp (fun hs_ => (fun e_ => (Kd.R_ne HO_15.out BK239.out (by decide)) e_) hs_)); have n5_ := Aside0.mk (blk_kept (by (with_reducible repeat refine blk_alloc ?_ _); exact BK264.out) hkp (fun hs_ => (fun e_ => (Kd.R_ne HO_15.out BK264.out (by decide)) e_) hs_)); have n6_ := Aside0.mk (hb); clear HO_10; clear HO_15; clear HPa; clear HPb; clear BK239; clear BK264; clear HB; have HO_10 := n0_; have HO_15 := n1_; have HPa := n2_; have HPb := n3_; have BK239 := n4_; have BK264 := n5_; have HB := n6_; clear n0_ n1_ n2_ n3_ n4_ n5_ n6_; (try clear hb); (try clear hkp); (try clear hy0)) | ((with_reducible refine gate_callee (f := 33) rfl ?_); refine goesL_ (some 111) rfl rfl Try.func33 (by kernel_rfl) rfl #[.slice Ao126 t299.length co126, .int .i64 1] rfl (by (try simp only [List.map_toArray, List.map_cons, List.map_nil]); first | done | (rw [show t299.length = t271.length from (Kd.R_reads' HO_15.out).1.symm] <;> rfl) | rfl | (simp only [List.length_drop, List.length_take]; rfl)) ?_; (with_reducible refine (laws_heldIntS.calls kj69 _ _ t299 1 t300 _ ?side1 ?side2 A94.out).mono ?_); (case side1 => repeat (first | exact (Kd.R_reads' HO_15.out).2.2 | (with_reducible refine Kd.C_alloc ?_ _))); (case side2 => rw [show t299.length = t271.length from (Kd.R_reads' HO_15.out).1.symm]; exact (Kd.R_reads' HO_15.out).2.1); rintro e w' ⟨rfl, ⟨nd, rfl⟩⟩; refine ⟨_, rfl, ?_⟩))
               go_ret
               exact ⟨by first | rfl | (simp [errW_none, errW_some] <;> rfl) | (simp [*, errW_none, errW_some] <;> rfl), by repeat (first | (with_reducible first | exact HB.out | apply below_alloc | apply pw_below_drewN | apply below_drew1 | refine below_set ?_ GE239.out | refine below_set ?_ GE264.out) | exact HB.out)⟩
         ·replace c66 := Bool.eq_false_iff.mpr c66
          subst c66
          have H1 : (some false) = some r := by rw [if_neg (show ¬ (false = true) by decide)] at H; exact H
          clear H
          have H := H1
          clear H1
          obtain rfl := Option.some.inj H
          try go_wp2
          have n0_ := Aside0.mk (Kd.R_drew HO_10.out)
          have n1_ := Aside0.mk (Kd.S_drew HO_13.out)
          have n2_ := Aside0.mk (Kd.R_drew HO_14.out)
          have n3_ := Aside0.mk (Kd.R_drew HO_15.out)
          have n4_ := Aside0.mk (Kd.R_drew HPa.out)
          have n5_ := Aside0.mk (Kd.R_drew HPb.out)
          have n6_ := Aside0.mk (blk_drew BK239.out)
          have n7_ := Aside0.mk (blk_drew BK264.out)
          have n8_ := Aside0.mk (below_drew1 HB.out)
          clear HO_10
          clear HO_13
          clear HO_14
          clear HO_15
          clear HPa
          clear HPb
          clear BK239
          clear BK264
          clear HB
          have HO_10 := n0_
          have HO_13 := n1_
          have HO_14 := n2_
          have HO_15 := n3_
          have HPa := n4_
          have HPb := n5_
          have BK239 := n6_
          have BK264 := n7_
          have HB := n8_
          clear n0_ n1_ n2_ n3_ n4_ n5_ n6_ n7_ n8_
          refine start_ (n := 5) (S := fun w' => w'.cell? ⟨gb264, 0, none⟩ = some (.slice Ao41 t258.length co41) ∧ w'.cell? ⟨gb264, 1, none⟩ = some (.slice Ao44 t261.length co44) ∧ w'.cell? ⟨gb239, 0, none⟩ = some (.slice A0_0 l0_0.length c0_0) ∧ w'.cell? ⟨gb239, 1, none⟩ = some (.slice A0_1 l0_1.length c0_1)) (ds := []) #[false, false, false, false, false] (by kernel_rfl) rfl rfl ⟨(blk_cell BK264.out 0).trans rfl, (blk_cell BK264.out 1).trans rfl, (blk_cell BK239.out 0).trans rfl, (blk_cell BK239.out 1).trans rfl⟩ (fun hHeld => ?_)
          generalize wc.drew = w128 at HO_10 HO_13 HO_14 HO_15 HPa HPb BK239 BK264 HB hHeld ⊢
          refine take_ (i := 0) (N := some 69) (v := ?_) (a' := ?_) #[true, false, false, false, false] rfl rfl (by kernel_rfl) (fun _ _ _ h => h) (Or.inl ⟨by rfl, ?_⟩) hHeld ?_ ?_
          rotate_left
          ·rintro w' ⟨s0, s1, s2, s3⟩
           go_simp
           with_reducible rfl
          rotate_left
          ·simp only [Act.put, List.setIfInBounds_toArray, List.set_cons_zero, List.set_cons_succ, i64_w, i32_w]
           rfl
          refine take_ (i := 1) (N := some 70) (v := ?_) (a' := ?_) #[true, true, false, false, false] rfl rfl (by kernel_rfl) (fun _ _ _ h => h) (Or.inl ⟨by rfl, ?_⟩) hHeld ?_ ?_
          rotate_left
          ·rintro w' ⟨s0, s1, s2, s3⟩
           go_simp
           with_reducible rfl
          rotate_left
          ·simp only [Act.put, List.setIfInBounds_toArray, List.set_cons_zero, List.set_cons_succ, i64_w, i32_w]
           rfl
          refine one_ (i := 2) (N := some 71) #[true, true, true, false, false] rfl rfl (by kernel_rfl) (by decide) (fun K hK => ?_)
          refine goes_ Try.func18 (by kernel_rfl) rfl #[.agg #[.slice A0_0 l0_0.length c0_0, .slice A0_1 l0_1.length c0_1]] (by rfl) rfl rfl (by (try simp only [List.map_toArray, List.map_cons, List.map_nil]); first | done | rfl | (simp only [List.length_drop, List.length_take]; rfl)) ?_
          with_reducible refine (laws_toMap.calls kj24 _ _ l0_0 _ _ l0_1 t276 t279 _ ?side1 ?side2 ?side3 ?side4 A58.out).mono ?_
          (case side1 => repeat (first | exact (Kd.C_below HR0_0.out HB.out) | (with_reducible refine Kd.C_alloc ?_ _) | (with_reducible refine Kd.C_drewN ?_ _) | (with_reducible refine Kd.C_drew ?_)))
          (case side2 => exact HC0_0.out)
          (case side3 => repeat (first | exact (Kd.C_below HR0_1.out HB.out) | (with_reducible refine Kd.C_alloc ?_ _) | (with_reducible refine Kd.C_drewN ?_ _) | (with_reducible refine Kd.C_drew ?_)))
          (case side4 => exact HC0_1.out)
          rintro e w129 ⟨v277, v280, rfl, ho0, ho1, hb⟩
          refine ⟨_, rfl, ?_⟩
          have n0_ := Aside0.mk (Kd.R_mono (Kd.R_told (Kd.R_told (Kd.R_old (by (with_reducible repeat (first | apply Kd.R_alloc | apply Kd.R_drewN | apply Kd.R_drew)); exact HO_10.out) hb) (Kd.R_base ho0)) (Kd.R_base ho1)) (fun _ h_ => h_.1))
          have n1_ := Aside0.mk (Kd.S_mono (Kd.S_told (Kd.S_told (Kd.S_old (by (with_reducible repeat (first | apply Kd.S_alloc | apply Kd.S_drewN | apply Kd.S_drew)); exact HO_13.out) hb) (Kd.R_base ho0)) (Kd.R_base ho1)) (fun _ h_ => h_.1))
          have n2_ := Aside0.mk (Kd.R_mono (Kd.R_told (Kd.R_told (Kd.R_old (by (with_reducible repeat (first | apply Kd.R_alloc | apply Kd.R_drewN | apply Kd.R_drew)); exact HO_14.out) hb) (Kd.R_base ho0)) (Kd.R_base ho1)) (fun _ h_ => h_.1))
          have n3_ := Aside0.mk (Kd.R_mono (Kd.R_told (Kd.R_told (Kd.R_old (by (with_reducible repeat (first | apply Kd.R_alloc | apply Kd.R_drewN | apply Kd.R_drew)); exact HO_15.out) hb) (Kd.R_base ho0)) (Kd.R_base ho1)) (fun _ h_ => h_.1))
          have n4_ := Aside0.mk (Kd.R_mono (Kd.R_told (Kd.R_told (Kd.R_old (by (with_reducible repeat (first | apply Kd.R_alloc | apply Kd.R_drewN | apply Kd.R_drew)); exact HPa.out) hb) (Kd.R_base ho0)) (Kd.R_base ho1)) (fun _ h_ => h_.1))
          have n5_ := Aside0.mk (Kd.R_mono (Kd.R_told (Kd.R_told (Kd.R_old (by (with_reducible repeat (first | apply Kd.R_alloc | apply Kd.R_drewN | apply Kd.R_drew)); exact HPb.out) hb) (Kd.R_base ho0)) (Kd.R_base ho1)) (fun _ h_ => h_.1))
          have n6_ := Aside0.mk (Kd.R_lower (Kd.R_new' (Kd.R_new' (Kd.R_new' (Kd.R_new' (Kd.R_new' ho0 (Kd.R_lt (by (with_reducible repeat (first | apply Kd.R_alloc | apply Kd.R_drewN | apply Kd.R_drew)); exact HO_10.out))) (Kd.R_lt (by (with_reducible repeat (first | apply Kd.R_alloc | apply Kd.R_drewN | apply Kd.R_drew)); exact HO_14.out))) (Kd.R_lt (by (with_reducible repeat (first | apply Kd.R_alloc | apply Kd.R_drewN | apply Kd.R_drew)); exact HO_15.out))) (Kd.R_lt (by (with_reducible repeat (first | apply Kd.R_alloc | apply Kd.R_drewN | apply Kd.R_drew)); exact HPa.out))) (Kd.R_lt (by (with_reducible repeat (first | apply Kd.R_alloc | apply Kd.R_drewN | apply Kd.R_drew)); exact HPb.out))) (below_size (by repeat (first | (with_reducible first | exact HB.out | apply below_alloc | apply pw_below_drewN | apply below_drew1 | refine below_set ?_ GE239.out | refine below_set ?_ GE264.out) | exact HB.out))))
          have n7_ := Aside0.mk (Kd.R_lower (Kd.R_new' (Kd.R_new' (Kd.R_new' (Kd.R_new' (Kd.R_new' ho1 (Kd.R_lt (by (with_reducible repeat (first | apply Kd.R_alloc | apply Kd.R_drewN | apply Kd.R_drew)); exact HO_10.out))) (Kd.R_lt (by (with_reducible repeat (first | apply Kd.R_alloc | apply Kd.R_drewN | apply Kd.R_drew)); exact HO_14.out))) (Kd.R_lt (by (with_reducible repeat (first | apply Kd.R_alloc | apply Kd.R_drewN | apply Kd.R_drew)); exact HO_15.out))) (Kd.R_lt (by (with_reducible repeat (first | apply Kd.R_alloc | apply Kd.R_drewN | apply Kd.R_drew)); exact HPa.out))) (Kd.R_lt (by (with_reducible repeat (first | apply Kd.R_alloc | apply Kd.R_drewN | apply Kd.R_drew)); exact HPb.out))) (below_size (by repeat (first | (with_reducible first | exact HB.out | apply below_alloc | apply pw_below_drewN | apply below_drew1 | refine below_set ?_ GE239.out | refine below_set ?_ GE264.out) | exact HB.out))))
          have n8_ := Aside0.mk (blk_below (g := gb239) (o := .cells #[.slice A0_0 l0_0.length c0_0, .slice A0_1 l0_1.length c0_1] 24 (0, 0)) (by (with_reducible repeat (first | refine blk_drewN ?_ _ | refine blk_drew ?_ | refine blk_alloc ?_ _)); exact BK239.out) hb)
          have n9_ := Aside0.mk (blk_below (g := gb264) (o := .cells #[.slice Ao41 t258.length co41, .slice Ao44 t261.length co44] 29 (0, 0)) (by (with_reducible repeat (first | refine blk_drewN ?_ _ | refine blk_drew ?_ | refine blk_alloc ?_ _)); exact BK264.out) hb)
          have n10_ := Aside0.mk (below_step (by repeat (first | (with_reducible first | exact HB.out | apply below_alloc | apply pw_below_drewN | apply below_drew1 | refine below_set ?_ GE239.out | refine below_set ?_ GE264.out) | exact HB.out)) hb)
          clear HO_10
          clear HO_13
          clear HO_14
          clear HO_15
          clear HPa
          clear HPb
          clear BK239
          clear BK264
          clear HB
          have HO_10 := n0_
          have HO_13 := n1_
          have HO_14 := n2_
          have HO_15 := n3_
          have HPa := n4_
          have HPb := n5_
          have HO278 := n6_
          have HO281 := n7_
          have BK239 := n8_
          have BK264 := n9_
          have HB := n10_
          clear n0_ n1_ n2_ n3_ n4_ n5_ n6_ n7_ n8_ n9_ n10_
          (try clear hb)
          (try clear hb2)
          (try clear hk)
          (try clear hi)
          (try clear ho0)
          (try clear ho1)
          obtain ⟨Ao130, co130, eo130⟩ := Kd.R_slice HO278.out
          (first | subst eo130 | (injection eo130 with f1_ f2_ f3_; have f4_ := f1_.symm; have f5_ := f3_.symm; clear f1_ f2_ f3_; subst f4_; subst f5_))
          obtain ⟨Ao131, co131, eo131⟩ := Kd.R_slice HO281.out
          (first | subst eo131 | (injection eo131 with f1_ f2_ f3_; have f4_ := f1_.symm; have f5_ := f3_.symm; clear f1_ f2_ f3_; subst f4_; subst f5_))
          refine hK.out _ _ ⟨(blk_cell BK264.out 0).trans rfl, (blk_cell BK264.out 1).trans rfl, (blk_cell BK239.out 0).trans rfl, (blk_cell BK239.out 1).trans rfl⟩ (fun hHeld => ?_)
          clear hK K
          refine norm_ (a' := ?_) ?_ ?_
          rotate_left
          ·show Act.put _ (some 71) _ = _
           simp only [Act.put, List.setIfInBounds_toArray, List.set_cons_zero, List.set_cons_succ, i64_w, i32_w]
           rfl
          refine one_ (i := 3) (N := some 72) #[true, true, true, true, false] rfl rfl (by kernel_rfl) (by decide) (fun K hK => ?_)
          refine goes_ Try.func21 (by kernel_rfl) rfl #[.agg #[.slice Ao41 t258.length co41, .slice Ao44 t261.length co44], .agg #[.slice Ao130 t276.length co130, .slice Ao131 t279.length co131]] (by rfl) rfl rfl (by (try simp only [List.map_toArray, List.map_cons, List.map_nil]); first | done | rfl | (simp only [List.length_drop, List.length_take]; rfl)) ?_
          with_reducible refine (laws_eqMap.calls kj24 _ _ t258 _ _ t261 _ _ t276 _ _ t279 true _ ?side1 ?side2 ?side3 ?side4 ?side5 ?side6 ?side7 ?side8 A59.out).mono ?_
          (case side1 => repeat (first | exact (Kd.R_reads' HPa.out).2.2 | (with_reducible refine Kd.C_alloc ?_ _) | (with_reducible refine Kd.C_drewN ?_ _) | (with_reducible refine Kd.C_drew ?_)))
          (case side2 => exact (Kd.R_reads' HPa.out).2.1)
          (case side3 => repeat (first | exact (Kd.R_reads' HPb.out).2.2 | (with_reducible refine Kd.C_alloc ?_ _) | (with_reducible refine Kd.C_drewN ?_ _) | (with_reducible refine Kd.C_drew ?_)))
          (case side4 => exact (Kd.R_reads' HPb.out).2.1)
          (case side5 => repeat (first | exact (Kd.R_reads' HO278.out).2.2 | (with_reducible refine Kd.C_alloc ?_ _) | (with_reducible refine Kd.C_drewN ?_ _) | (with_reducible refine Kd.C_drew ?_)))
          (case side6 => exact (Kd.R_reads' HO278.out).2.1)
          (case side7 => repeat (first | exact (Kd.R_reads' HO281.out).2.2 | (with_reducible refine Kd.C_alloc ?_ _) | (with_reducible refine Kd.C_drewN ?_ _) | (with_reducible refine Kd.C_drew ?_)))
          (case side8 => exact (Kd.R_reads' HO281.out).2.1)
          rintro e w132 ⟨rfl, hb⟩
          refine ⟨_, rfl, ?_⟩
          have n0_ := Aside0.mk (Kd.R_below (by (with_reducible repeat (first | apply Kd.R_alloc | apply Kd.R_drewN | apply Kd.R_drew)); exact HO_10.out) hb)
          have n1_ := Aside0.mk (Kd.S_below (by (with_reducible repeat (first | apply Kd.S_alloc | apply Kd.S_drewN | apply Kd.S_drew)); exact HO_13.out) hb)
          have n2_ := Aside0.mk (Kd.R_below (by (with_reducible repeat (first | apply Kd.R_alloc | apply Kd.R_drewN | apply Kd.R_drew)); exact HO_14.out) hb)
          have n3_ := Aside0.mk (Kd.R_below (by (with_reducible repeat (first | apply Kd.R_alloc | apply Kd.R_drewN | apply Kd.R_drew)); exact HO_15.out) hb)
          have n4_ := Aside0.mk (Kd.R_below (by (with_reducible repeat (first | apply Kd.R_alloc | apply Kd.R_drewN | apply Kd.R_drew)); exact HPa.out) hb)
          have n5_ := Aside0.mk (Kd.R_below (by (with_reducible repeat (first | apply Kd.R_alloc | apply Kd.R_drewN | apply Kd.R_drew)); exact HPb.out) hb)
          have n6_ := Aside0.mk (Kd.R_below (by (with_reducible repeat (first | apply Kd.R_alloc | apply Kd.R_drewN | apply Kd.R_drew)); exact HO278.out) hb)
          have n7_ := Aside0.mk (Kd.R_below (by (with_reducible repeat (first | apply Kd.R_alloc | apply Kd.R_drewN | apply Kd.R_drew)); exact HO281.out) hb)
          have n8_ := Aside0.mk (blk_below (g := gb239) (o := .cells #[.slice A0_0 l0_0.length c0_0, .slice A0_1 l0_1.length c0_1] 24 (0, 0)) (by (with_reducible repeat (first | refine blk_drewN ?_ _ | refine blk_drew ?_ | refine blk_alloc ?_ _)); exact BK239.out) hb)
          have n9_ := Aside0.mk (blk_below (g := gb264) (o := .cells #[.slice Ao41 t258.length co41, .slice Ao44 t261.length co44] 29 (0, 0)) (by (with_reducible repeat (first | refine blk_drewN ?_ _ | refine blk_drew ?_ | refine blk_alloc ?_ _)); exact BK264.out) hb)
          have n10_ := Aside0.mk (below_step (by repeat (first | (with_reducible first | exact HB.out | apply below_alloc | apply pw_below_drewN | apply below_drew1 | refine below_set ?_ GE239.out | refine below_set ?_ GE264.out) | exact HB.out)) hb)
          clear HO_10
          clear HO_13
          clear HO_14
          clear HO_15
          clear HPa
          clear HPb
          clear HO278
          clear HO281
          clear BK239
          clear BK264
          clear HB
          have HO_10 := n0_
          have HO_13 := n1_
          have HO_14 := n2_
          have HO_15 := n3_
          have HPa := n4_
          have HPb := n5_
          have HO278 := n6_
          have HO281 := n7_
          have BK239 := n8_
          have BK264 := n9_
          have HB := n10_
          clear n0_ n1_ n2_ n3_ n4_ n5_ n6_ n7_ n8_ n9_ n10_
          (try clear hb)
          (try clear hb2)
          (try clear hk)
          (try clear hi)
          refine hK.out _ _ ⟨(blk_cell BK264.out 0).trans rfl, (blk_cell BK264.out 1).trans rfl, (blk_cell BK239.out 0).trans rfl, (blk_cell BK239.out 1).trans rfl⟩ (fun hHeld => ?_)
          clear hK K
          refine norm_ (a' := ?_) ?_ ?_
          rotate_left
          ·show Act.put _ (some 72) _ = _
           simp only [Act.put, List.setIfInBounds_toArray, List.set_cons_zero, List.set_cons_succ, i64_w, i32_w]
           rfl
          refine pure_ (i := 4) (N := some 73) (v := ?_) (a' := ?_) #[true, true, true, true, true] rfl rfl (by kernel_rfl) (fun _ _ _ h => h) (Or.inl ⟨by rfl, ?_⟩) ?_ ?_
          rotate_left
          ·intro w'
           go_simp
           with_reducible rfl
          rotate_left
          ·simp only [Act.put, List.setIfInBounds_toArray, List.set_cons_zero, List.set_cons_succ, i64_w, i32_w]
           rfl
          refine done_ (by kernel_rfl) ?_
          try go_wp2_with (first | ((with_reducible refine gate_callee (f := 19) rfl ?_); refine goesL_ (some 76) rfl rfl Try.func19 (by kernel_rfl) rfl #[.slice A2 l2.length c2] rfl (by (try simp only [List.map_toArray, List.map_cons, List.map_nil]); first | done | rfl | (simp only [List.length_drop, List.length_take]; rfl)) ?_; (with_reducible refine (laws_toIntSS.calls kj24 _ _ l2 t283 _ ?side1 ?side2 A61.out).mono ?_); (case side1 => repeat (first | exact (Kd.C_below HR2.out HB.out) | (with_reducible refine Kd.C_alloc ?_ _))); (case side2 => exact HC2.out); rintro e w133 ⟨v284, rfl, ho0, hb⟩; refine ⟨_, rfl, ?_⟩; have n0_ := Aside0.mk (Kd.R_below (by (with_reducible repeat apply Kd.R_alloc); exact HO_10.out) hb); have n1_ := Aside0.mk (Kd.S_elder' (by (with_reducible repeat apply Kd.S_alloc); exact HO_13.out) (Kd.S_base ho0) hb); have n2_ := Aside0.mk (Kd.R_below (by (with_reducible repeat apply Kd.R_alloc); exact HO_14.out) hb); have n3_ := Aside0.mk (Kd.R_below (by (with_reducible repeat apply Kd.R_alloc); exact HO_15.out) hb); have n4_ := Aside0.mk (Kd.R_below (by (with_reducible repeat apply Kd.R_alloc); exact HPa.out) hb); have n5_ := Aside0.mk (Kd.R_below (by (with_reducible repeat apply Kd.R_alloc); exact HPb.out) hb); have n6_ := Aside0.mk (Kd.R_below (by (with_reducible repeat apply Kd.R_alloc); exact HO278.out) hb); have n7_ := Aside0.mk (Kd.R_below (by (with_reducible repeat apply Kd.R_alloc); exact HO281.out) hb); have n8_ := Aside0.mk (Kd.S_lower (Kd.S_new' (Kd.S_new' (Kd.S_new' (Kd.S_new' (Kd.S_new' (Kd.S_new' (Kd.S_new' (Kd.S_new' ho0 (Kd.R_lt (by (with_reducible repeat apply Kd.R_alloc); exact HO_10.out))) (Kd.S_lt (by (with_reducible repeat apply Kd.S_alloc); exact HO_13.out))) (Kd.R_lt (by (with_reducible repeat apply Kd.R_alloc); exact HO_14.out))) (Kd.R_lt (by (with_reducible repeat apply Kd.R_alloc); exact HO_15.out))) (Kd.R_lt (by (with_reducible repeat apply Kd.R_alloc); exact HPa.out))) (Kd.R_lt (by (with_reducible repeat apply Kd.R_alloc); exact HPb.out))) (Kd.R_lt (by (with_reducible repeat apply Kd.R_alloc); exact HO278.out))) (Kd.R_lt (by (with_reducible repeat apply Kd.R_alloc); exact HO281.out))) (below_size (by repeat (first | (with_reducible first | exact HB.out | apply below_alloc | apply pw_below_drewN | apply below_drew1 | refine below_set ?_ GE239.out | refine below_set ?_ GE264.out) | exact HB.out)))); have n9_ := Aside0.mk (blk_below (g := gb239) (o := .cells #[.slice A0_0 l0_0.length c0_0, .slice A0_1 l0_1.length c0_1] 24 (0, 0)) (by (with_reducible repeat refine blk_alloc ?_ _); exact BK239.out) hb); have n10_ := Aside0.mk (blk_below (g := gb264) (o := .cells #[.slice Ao41 t258.length co41, .slice Ao44 t261.length co44] 29 (0, 0)) (by (with_reducible repeat refine blk_alloc ?_ _); exact BK264.out) hb); have n11_ := Aside0.mk (below_step (by repeat (first | (with_reducible first | exact HB.out | apply below_alloc | apply pw_below_drewN | apply below_drew1 | refine below_set ?_ GE239.out | refine below_set ?_ GE264.out) | exact HB.out)) hb); clear HO_10; clear HO_13; clear HO_14; clear HO_15; clear HPa; clear HPb; clear HO278; clear HO281; clear BK239; clear BK264; clear HB; have HO_10 := n0_; have HO_13 := n1_; have HO_14 := n2_; have HO_15 := n3_; have HPa := n4_; have HPb := n5_; have HO278 := n6_; have HO281 := n7_; have HO285 := n8_; have BK239 := n9_; have BK264 := n10_; have HB := n11_; clear n0_ n1_ n2_ n3_ n4_ n5_ n6_ n7_ n8_ n9_ n10_ n11_; (try clear hb); (try clear ho0); obtain ⟨Ao134, co134, eo134⟩ := Kd.S_slice HO285.out; subst eo134) | ((with_reducible refine gate_callee (f := 22) rfl ?_); refine goesL_ (some 77) rfl rfl Try.func22 (by kernel_rfl) rfl #[.slice Ao48 t265.length co48, .slice Ao134 t283.length co134] rfl (by (try simp only [List.map_toArray, List.map_cons, List.map_nil]); first | done | rfl | (simp only [List.length_drop, List.length_take]; rfl)) ?_; (with_reducible refine (laws_eqIntSS.calls kj24 _ _ t265 _ _ t283 true _ ?side1 ?side2 ?side3 ?side4 A62.out).mono ?_); (case side1 => repeat (first | exact (Kd.S_reads' HO_13.out).2.2 | (with_reducible refine Kd.C_alloc ?_ _))); (case side2 => exact (Kd.S_reads' HO_13.out).2.1); (case side3 => repeat (first | exact (Kd.S_reads' HO285.out).2.2 | (with_reducible refine Kd.C_alloc ?_ _))); (case side4 => exact (Kd.S_reads' HO285.out).2.1); rintro e w' ⟨rfl, ⟨nd, rfl⟩⟩; refine ⟨_, rfl, ?_⟩) | ((with_reducible refine gate_callee (f := 29) rfl ?_); refine goesL_ (some 81) rfl rfl Try.func29 (by kernel_rfl) rfl #[.slice A3 l3.length c3] rfl (by (try simp only [List.map_toArray, List.map_cons, List.map_nil]); first | done | rfl | (simp only [List.length_drop, List.length_take]; rfl)) ?_; (with_reducible refine (laws_toIntS.calls kj24 _ _ l3 t287 _ ?side1 ?side2 A64.out).mono ?_); (case side1 => repeat (first | exact (Kd.C_below HR3.out (by repeat (first | (with_reducible first | exact HB.out | apply below_alloc | apply pw_below_drewN | apply below_drew1 | refine below_set ?_ GE239.out | refine below_set ?_ GE264.out) | exact HB.out))) | (with_reducible refine Kd.C_alloc ?_ _))); (case side2 => exact HC3.out); rintro e w135 ⟨v288, rfl, ho0, hb⟩; refine ⟨_, rfl, ?_⟩; have n0_ := Aside0.mk (Kd.R_elder' (by (with_reducible repeat apply Kd.R_alloc); exact HO_10.out) (Kd.R_base ho0) hb); have n1_ := Aside0.mk (Kd.S_elder' (by (with_reducible repeat apply Kd.S_alloc); exact HO_13.out) (Kd.R_base ho0) hb); have n2_ := Aside0.mk (Kd.R_elder' (by (with_reducible repeat apply Kd.R_alloc); exact HO_14.out) (Kd.R_base ho0) hb); have n3_ := Aside0.mk (Kd.R_elder' (by (with_reducible repeat apply Kd.R_alloc); exact HO_15.out) (Kd.R_base ho0) hb); have n4_ := Aside0.mk (Kd.R_elder' (by (with_reducible repeat apply Kd.R_alloc); exact HPa.out) (Kd.R_base ho0) hb); have n5_ := Aside0.mk (Kd.R_elder' (by (with_reducible repeat apply Kd.R_alloc); exact HPb.out) (Kd.R_base ho0) hb); have n6_ := Aside0.mk (Kd.R_elder' (by (with_reducible repeat apply Kd.R_alloc); exact HO278.out) (Kd.R_base ho0) hb); have n7_ := Aside0.mk (Kd.R_elder' (by (with_reducible repeat apply Kd.R_alloc); exact HO281.out) (Kd.R_base ho0) hb); have n8_ := Aside0.mk (Kd.S_elder' (by (with_reducible repeat apply Kd.S_alloc); exact HO285.out) (Kd.R_base ho0) hb); have n9_ := Aside0.mk (Kd.R_lower (Kd.R_new' (Kd.R_new' (Kd.R_new' (Kd.R_new' (Kd.R_new' (Kd.R_new' (Kd.R_new' ho0 (Kd.R_lt (by (with_reducible repeat apply Kd.R_alloc); exact HO_10.out))) (Kd.R_lt (by (with_reducible repeat apply Kd.R_alloc); exact HO_14.out))) (Kd.R_lt (by (with_reducible repeat apply Kd.R_alloc); exact HO_15.out))) (Kd.R_lt (by (with_reducible repeat apply Kd.R_alloc); exact HPa.out))) (Kd.R_lt (by (with_reducible repeat apply Kd.R_alloc); exact HPb.out))) (Kd.R_lt (by (with_reducible repeat apply Kd.R_alloc); exact HO278.out))) (Kd.R_lt (by (with_reducible repeat apply Kd.R_alloc); exact HO281.out))) (below_size (by repeat (first | (with_reducible first | exact HB.out | apply below_alloc | apply pw_below_drewN | apply below_drew1 | refine below_set ?_ GE239.out | refine below_set ?_ GE264.out) | exact HB.out)))); have n10_ := Aside0.mk (blk_below (g := gb239) (o := .cells #[.slice A0_0 l0_0.length c0_0, .slice A0_1 l0_1.length c0_1] 24 (0, 0)) (by (with_reducible repeat refine blk_alloc ?_ _); exact BK239.out) hb); have n11_ := Aside0.mk (blk_below (g := gb264) (o := .cells #[.slice Ao41 t258.length co41, .slice Ao44 t261.length co44] 29 (0, 0)) (by (with_reducible repeat refine blk_alloc ?_ _); exact BK264.out) hb); have n12_ := Aside0.mk (below_step (by repeat (first | (with_reducible first | exact HB.out | apply below_alloc | apply pw_below_drewN | apply below_drew1 | refine below_set ?_ GE239.out | refine below_set ?_ GE264.out) | exact HB.out)) hb); clear HO_10; clear HO_13; clear HO_14; clear HO_15; clear HPa; clear HPb; clear HO278; clear HO281; clear HO285; clear BK239; clear BK264; clear HB; have HO_10 := n0_; have HO_13 := n1_; have HO_14 := n2_; have HO_15 := n3_; have HPa := n4_; have HPb := n5_; have HO278 := n6_; have HO281 := n7_; have HO285 := n8_; have HO289 := n9_; have BK239 := n10_; have BK264 := n11_; have HB := n12_; clear n0_ n1_ n2_ n3_ n4_ n5_ n6_ n7_ n8_ n9_ n10_ n11_ n12_; (try clear hb); (try clear ho0); obtain ⟨Ao136, co136, eo136⟩ := Kd.R_slice HO289.out; subst eo136) | ((with_reducible refine gate_callee (f := 31) rfl ?_); refine goesL_ (some 82) rfl rfl Try.func31 (by kernel_rfl) rfl #[.slice Ao49 t268.length co49, .slice Ao136 t287.length co136] rfl (by (try simp only [List.map_toArray, List.map_cons, List.map_nil]); first | done | rfl | (simp only [List.length_drop, List.length_take]; rfl)) ?_; (with_reducible refine (laws_eqIntS.calls kj24 _ _ t268 _ _ t287 false _ ?side1 ?side2 ?side3 ?side4 A65.out).mono ?_); (case side1 => repeat (first | exact (Kd.R_reads' HO_14.out).2.2 | (with_reducible refine Kd.C_alloc ?_ _))); (case side2 => exact (Kd.R_reads' HO_14.out).2.1); (case side3 => repeat (first | exact (Kd.R_reads' HO289.out).2.2 | (with_reducible refine Kd.C_alloc ?_ _))); (case side4 => exact (Kd.R_reads' HO289.out).2.1); rintro e w' ⟨rfl, ⟨nd, rfl⟩⟩; refine ⟨_, rfl, ?_⟩))
          go_ret
          exact ⟨by first | rfl | (simp [errW_none, errW_some] <;> rfl) | (simp [*, errW_none, errW_some] <;> rfl), by repeat (first | (with_reducible first | exact HB.out | apply below_alloc | apply pw_below_drewN | apply below_drew1 | refine below_set ?_ GE239.out | refine below_set ?_ GE264.out) | exact HB.out)⟩
        ·replace c63 := Bool.eq_false_iff.mpr c63
         subst c63
         have H1 : (some false) = some r := by rw [if_neg (show ¬ (false = true) by decide)] at H; exact H
         clear H
         have H := H1
         clear H1
         obtain rfl := Option.some.inj H
         try go_wp2
         have n0_ := Aside0.mk (Kd.R_drew HO_10.out)
         have n1_ := Aside0.mk (Kd.S_drew HO_13.out)
         have n2_ := Aside0.mk (Kd.R_drew HO_14.out)
         have n3_ := Aside0.mk (Kd.R_drew HO_15.out)
         have n4_ := Aside0.mk (Kd.R_drew HPa.out)
         have n5_ := Aside0.mk (Kd.R_drew HPb.out)
         have n6_ := Aside0.mk (blk_drew BK239.out)
         have n7_ := Aside0.mk (blk_drew BK264.out)
         have n8_ := Aside0.mk (below_drew1 HB.out)
         clear HO_10
         clear HO_13
         clear HO_14
         clear HO_15
         clear HPa
         clear HPb
         clear BK239
         clear BK264
         clear HB
         have HO_10 := n0_
         have HO_13 := n1_
         have HO_14 := n2_
         have HO_15 := n3_
         have HPa := n4_
         have HPb := n5_
         have BK239 := n6_
         have BK264 := n7_
         have HB := n8_
         clear n0_ n1_ n2_ n3_ n4_ n5_ n6_ n7_ n8_
         refine start_ (n := 5) (S := fun w' => w'.cell? ⟨gb264, 0, none⟩ = some (.slice Ao41 t258.length co41) ∧ w'.cell? ⟨gb264, 1, none⟩ = some (.slice Ao44 t261.length co44) ∧ w'.cell? ⟨gb239, 0, none⟩ = some (.slice A0_0 l0_0.length c0_0) ∧ w'.cell? ⟨gb239, 1, none⟩ = some (.slice A0_1 l0_1.length c0_1)) (ds := []) #[false, false, false, false, false] (by kernel_rfl) rfl rfl ⟨(blk_cell BK264.out 0).trans rfl, (blk_cell BK264.out 1).trans rfl, (blk_cell BK239.out 0).trans rfl, (blk_cell BK239.out 1).trans rfl⟩ (fun hHeld => ?_)
         generalize wc.drew = w137 at HO_10 HO_13 HO_14 HO_15 HPa HPb BK239 BK264 HB hHeld ⊢
         refine take_ (i := 0) (N := some 69) (v := ?_) (a' := ?_) #[true, false, false, false, false] rfl rfl (by kernel_rfl) (fun _ _ _ h => h) (Or.inl ⟨by rfl, ?_⟩) hHeld ?_ ?_
         rotate_left
         ·rintro w' ⟨s0, s1, s2, s3⟩
          go_simp
          with_reducible rfl
         rotate_left
         ·simp only [Act.put, List.setIfInBounds_toArray, List.set_cons_zero, List.set_cons_succ, i64_w, i32_w]
          rfl
         refine take_ (i := 1) (N := some 70) (v := ?_) (a' := ?_) #[true, true, false, false, false] rfl rfl (by kernel_rfl) (fun _ _ _ h => h) (Or.inl ⟨by rfl, ?_⟩) hHeld ?_ ?_
         rotate_left
         ·rintro w' ⟨s0, s1, s2, s3⟩
          go_simp
          with_reducible rfl
         rotate_left
         ·simp only [Act.put, List.setIfInBounds_toArray, List.set_cons_zero, List.set_cons_succ, i64_w, i32_w]
          rfl
         refine one_ (i := 2) (N := some 71) #[true, true, true, false, false] rfl rfl (by kernel_rfl) (by decide) (fun K hK => ?_)
         refine goes_ Try.func18 (by kernel_rfl) rfl #[.agg #[.slice A0_0 l0_0.length c0_0, .slice A0_1 l0_1.length c0_1]] (by rfl) rfl rfl (by (try simp only [List.map_toArray, List.map_cons, List.map_nil]); first | done | rfl | (simp only [List.length_drop, List.length_take]; rfl)) ?_
         with_reducible refine (laws_toMap.calls kj24 _ _ l0_0 _ _ l0_1 t276 t279 _ ?side1 ?side2 ?side3 ?side4 A58.out).mono ?_
         (case side1 => repeat (first | exact (Kd.C_below HR0_0.out HB.out) | (with_reducible refine Kd.C_alloc ?_ _) | (with_reducible refine Kd.C_drewN ?_ _) | (with_reducible refine Kd.C_drew ?_)))
         (case side2 => exact HC0_0.out)
         (case side3 => repeat (first | exact (Kd.C_below HR0_1.out HB.out) | (with_reducible refine Kd.C_alloc ?_ _) | (with_reducible refine Kd.C_drewN ?_ _) | (with_reducible refine Kd.C_drew ?_)))
         (case side4 => exact HC0_1.out)
         rintro e w138 ⟨v277, v280, rfl, ho0, ho1, hb⟩
         refine ⟨_, rfl, ?_⟩
         have n0_ := Aside0.mk (Kd.R_mono (Kd.R_told (Kd.R_told (Kd.R_old (by (with_reducible repeat (first | apply Kd.R_alloc | apply Kd.R_drewN | apply Kd.R_drew)); exact HO_10.out) hb) (Kd.R_base ho0)) (Kd.R_base ho1)) (fun _ h_ => h_.1))
         have n1_ := Aside0.mk (Kd.S_mono (Kd.S_told (Kd.S_told (Kd.S_old (by (with_reducible repeat (first | apply Kd.S_alloc | apply Kd.S_drewN | apply Kd.S_drew)); exact HO_13.out) hb) (Kd.R_base ho0)) (Kd.R_base ho1)) (fun _ h_ => h_.1))
         have n2_ := Aside0.mk (Kd.R_mono (Kd.R_told (Kd.R_told (Kd.R_old (by (with_reducible repeat (first | apply Kd.R_alloc | apply Kd.R_drewN | apply Kd.R_drew)); exact HO_14.out) hb) (Kd.R_base ho0)) (Kd.R_base ho1)) (fun _ h_ => h_.1))
         have n3_ := Aside0.mk (Kd.R_mono (Kd.R_told (Kd.R_told (Kd.R_old (by (with_reducible repeat (first | apply Kd.R_alloc | apply Kd.R_drewN | apply Kd.R_drew)); exact HO_15.out) hb) (Kd.R_base ho0)) (Kd.R_base ho1)) (fun _ h_ => h_.1))
         have n4_ := Aside0.mk (Kd.R_mono (Kd.R_told (Kd.R_told (Kd.R_old (by (with_reducible repeat (first | apply Kd.R_alloc | apply Kd.R_drewN | apply Kd.R_drew)); exact HPa.out) hb) (Kd.R_base ho0)) (Kd.R_base ho1)) (fun _ h_ => h_.1))
         have n5_ := Aside0.mk (Kd.R_mono (Kd.R_told (Kd.R_told (Kd.R_old (by (with_reducible repeat (first | apply Kd.R_alloc | apply Kd.R_drewN | apply Kd.R_drew)); exact HPb.out) hb) (Kd.R_base ho0)) (Kd.R_base ho1)) (fun _ h_ => h_.1))
         have n6_ := Aside0.mk (Kd.R_lower (Kd.R_new' (Kd.R_new' (Kd.R_new' (Kd.R_new' (Kd.R_new' ho0 (Kd.R_lt (by (with_reducible repeat (first | apply Kd.R_alloc | apply Kd.R_drewN | apply Kd.R_drew)); exact HO_10.out))) (Kd.R_lt (by (with_reducible repeat (first | apply Kd.R_alloc | apply Kd.R_drewN | apply Kd.R_drew)); exact HO_14.out))) (Kd.R_lt (by (with_reducible repeat (first | apply Kd.R_alloc | apply Kd.R_drewN | apply Kd.R_drew)); exact HO_15.out))) (Kd.R_lt (by (with_reducible repeat (first | apply Kd.R_alloc | apply Kd.R_drewN | apply Kd.R_drew)); exact HPa.out))) (Kd.R_lt (by (with_reducible repeat (first | apply Kd.R_alloc | apply Kd.R_drewN | apply Kd.R_drew)); exact HPb.out))) (below_size (by repeat (first | (with_reducible first | exact HB.out | apply below_alloc | apply pw_below_drewN | apply below_drew1 | refine below_set ?_ GE239.out | refine below_set ?_ GE264.out) | exact HB.out))))
         have n7_ := Aside0.mk (Kd.R_lower (Kd.R_new' (Kd.R_new' (Kd.R_new' (Kd.R_new' (Kd.R_new' ho1 (Kd.R_lt (by (with_reducible repeat (first | apply Kd.R_alloc | apply Kd.R_drewN | apply Kd.R_drew)); exact HO_10.out))) (Kd.R_lt (by (with_reducible repeat (first | apply Kd.R_alloc | apply Kd.R_drewN | apply Kd.R_drew)); exact HO_14.out))) (Kd.R_lt (by (with_reducible repeat (first | apply Kd.R_alloc | apply Kd.R_drewN | apply Kd.R_drew)); exact HO_15.out))) (Kd.R_lt (by (with_reducible repeat (first | apply Kd.R_alloc | apply Kd.R_drewN | apply Kd.R_drew)); exact HPa.out))) (Kd.R_lt (by (with_reducible repeat (first | apply Kd.R_alloc | apply Kd.R_drewN | apply Kd.R_drew)); exact HPb.out))) (below_size (by repeat (first | (with_reducible first | exact HB.out | apply below_alloc | apply pw_below_drewN | apply below_drew1 | refine below_set ?_ GE239.out | refine below_set ?_ GE264.out) | exact HB.out))))
         have n8_ := Aside0.mk (blk_below (g := gb239) (o := .cells #[.slice A0_0 l0_0.length c0_0, .slice A0_1 l0_1.length c0_1] 24 (0, 0)) (by (with_reducible repeat (first | refine blk_drewN ?_ _ | refine blk_drew ?_ | refine blk_alloc ?_ _)); exact BK239.out) hb)
         have n9_ := Aside0.mk (blk_below (g := gb264) (o := .cells #[.slice Ao41 t258.length co41, .slice Ao44 t261.length co44] 29 (0, 0)) (by (with_reducible repeat (first | refine blk_drewN ?_ _ | refine blk_drew ?_ | refine blk_alloc ?_ _)); exact BK264.out) hb)
         have n10_ := Aside0.mk (below_step (by repeat (first | (with_reducible first | exact HB.out | apply below_alloc | apply pw_below_drewN | apply below_drew1 | refine below_set ?_ GE239.out | refine below_set ?_ GE264.out) | exact HB.out)) hb)
         clear HO_10
         clear HO_13
         clear HO_14
         clear HO_15
         clear HPa
         clear HPb
         clear BK239
         clear BK264
         clear HB
         have HO_10 := n0_
         have HO_13 := n1_
         have HO_14 := n2_
         have HO_15 := n3_
         have HPa := n4_
         have HPb := n5_
         have HO278 := n6_
         have HO281 := n7_
         have BK239 := n8_
         have BK264 := n9_
         have HB := n10_
         clear n0_ n1_ n2_ n3_ n4_ n5_ n6_ n7_ n8_ n9_ n10_
         (try clear hb)
         (try clear hb2)
         (try clear hk)
         (try clear hi)
         (try clear ho0)
         (try clear ho1)
         obtain ⟨Ao139, co139, eo139⟩ := Kd.R_slice HO278.out
         (first | subst eo139 | (injection eo139 with f1_ f2_ f3_; have f4_ := f1_.symm; have f5_ := f3_.symm; clear f1_ f2_ f3_; subst f4_; subst f5_))
         obtain ⟨Ao140, co140, eo140⟩ := Kd.R_slice HO281.out
         (first | subst eo140 | (injection eo140 with f1_ f2_ f3_; have f4_ := f1_.symm; have f5_ := f3_.symm; clear f1_ f2_ f3_; subst f4_; subst f5_))
         refine hK.out _ _ ⟨(blk_cell BK264.out 0).trans rfl, (blk_cell BK264.out 1).trans rfl, (blk_cell BK239.out 0).trans rfl, (blk_cell BK239.out 1).trans rfl⟩ (fun hHeld => ?_)
         clear hK K
         refine norm_ (a' := ?_) ?_ ?_
         rotate_left
         ·show Act.put _ (some 71) _ = _
          simp only [Act.put, List.setIfInBounds_toArray, List.set_cons_zero, List.set_cons_succ, i64_w, i32_w]
          rfl
         refine one_ (i := 3) (N := some 72) #[true, true, true, true, false] rfl rfl (by kernel_rfl) (by decide) (fun K hK => ?_)
         refine goes_ Try.func21 (by kernel_rfl) rfl #[.agg #[.slice Ao41 t258.length co41, .slice Ao44 t261.length co44], .agg #[.slice Ao139 t276.length co139, .slice Ao140 t279.length co140]] (by rfl) rfl rfl (by (try simp only [List.map_toArray, List.map_cons, List.map_nil]); first | done | rfl | (simp only [List.length_drop, List.length_take]; rfl)) ?_
         with_reducible refine (laws_eqMap.calls kj24 _ _ t258 _ _ t261 _ _ t276 _ _ t279 true _ ?side1 ?side2 ?side3 ?side4 ?side5 ?side6 ?side7 ?side8 A59.out).mono ?_
         (case side1 => repeat (first | exact (Kd.R_reads' HPa.out).2.2 | (with_reducible refine Kd.C_alloc ?_ _) | (with_reducible refine Kd.C_drewN ?_ _) | (with_reducible refine Kd.C_drew ?_)))
         (case side2 => exact (Kd.R_reads' HPa.out).2.1)
         (case side3 => repeat (first | exact (Kd.R_reads' HPb.out).2.2 | (with_reducible refine Kd.C_alloc ?_ _) | (with_reducible refine Kd.C_drewN ?_ _) | (with_reducible refine Kd.C_drew ?_)))
         (case side4 => exact (Kd.R_reads' HPb.out).2.1)
         (case side5 => repeat (first | exact (Kd.R_reads' HO278.out).2.2 | (with_reducible refine Kd.C_alloc ?_ _) | (with_reducible refine Kd.C_drewN ?_ _) | (with_reducible refine Kd.C_drew ?_)))
         (case side6 => exact (Kd.R_reads' HO278.out).2.1)
         (case side7 => repeat (first | exact (Kd.R_reads' HO281.out).2.2 | (with_reducible refine Kd.C_alloc ?_ _) | (with_reducible refine Kd.C_drewN ?_ _) | (with_reducible refine Kd.C_drew ?_)))
         (case side8 => exact (Kd.R_reads' HO281.out).2.1)
         rintro e w141 ⟨rfl, hb⟩
         refine ⟨_, rfl, ?_⟩
         have n0_ := Aside0.mk (Kd.R_below (by (with_reducible repeat (first | apply Kd.R_alloc | apply Kd.R_drewN | apply Kd.R_drew)); exact HO_10.out) hb)
         have n1_ := Aside0.mk (Kd.S_below (by (with_reducible repeat (first | apply Kd.S_alloc | apply Kd.S_drewN | apply Kd.S_drew)); exact HO_13.out) hb)
         have n2_ := Aside0.mk (Kd.R_below (by (with_reducible repeat (first | apply Kd.R_alloc | apply Kd.R_drewN | apply Kd.R_drew)); exact HO_14.out) hb)
         have n3_ := Aside0.mk (Kd.R_below (by (with_reducible repeat (first | apply Kd.R_alloc | apply Kd.R_drewN | apply Kd.R_drew)); exact HO_15.out) hb)
         have n4_ := Aside0.mk (Kd.R_below (by (with_reducible repeat (first | apply Kd.R_alloc | apply Kd.R_drewN | apply Kd.R_drew)); exact HPa.out) hb)
         have n5_ := Aside0.mk (Kd.R_below (by (with_reducible repeat (first | apply Kd.R_alloc | apply Kd.R_drewN | apply Kd.R_drew)); exact HPb.out) hb)
         have n6_ := Aside0.mk (Kd.R_below (by (with_reducible repeat (first | apply Kd.R_alloc | apply Kd.R_drewN | apply Kd.R_drew)); exact HO278.out) hb)
         have n7_ := Aside0.mk (Kd.R_below (by (with_reducible repeat (first | apply Kd.R_alloc | apply Kd.R_drewN | apply Kd.R_drew)); exact HO281.out) hb)
         have n8_ := Aside0.mk (blk_below (g := gb239) (o := .cells #[.slice A0_0 l0_0.length c0_0, .slice A0_1 l0_1.length c0_1] 24 (0, 0)) (by (with_reducible repeat (first | refine blk_drewN ?_ _ | refine blk_drew ?_ | refine blk_alloc ?_ _)); exact BK239.out) hb)
         have n9_ := Aside0.mk (blk_below (g := gb264) (o := .cells #[.slice Ao41 t258.length co41, .slice Ao44 t261.length co44] 29 (0, 0)) (by (with_reducible repeat (first | refine blk_drewN ?_ _ | refine blk_drew ?_ | refine blk_alloc ?_ _)); exact BK264.out) hb)
         have n10_ := Aside0.mk (below_step (by repeat (first | (with_reducible first | exact HB.out | apply below_alloc | apply pw_below_drewN | apply below_drew1 | refine below_set ?_ GE239.out | refine below_set ?_ GE264.out) | exact HB.out)) hb)
         clear HO_10
         clear HO_13
         clear HO_14
         clear HO_15
         clear HPa
         clear HPb
         clear HO278
         clear HO281
         clear BK239
         clear BK264
         clear HB
         have HO_10 := n0_
         have HO_13 := n1_
         have HO_14 := n2_
         have HO_15 := n3_
         have HPa := n4_
         have HPb := n5_
         have HO278 := n6_
         have HO281 := n7_
         have BK239 := n8_
         have BK264 := n9_
         have HB := n10_
         clear n0_ n1_ n2_ n3_ n4_ n5_ n6_ n7_ n8_ n9_ n10_
         (try clear hb)
         (try clear hb2)
         (try clear hk)
         (try clear hi)
         refine hK.out _ _ ⟨(blk_cell BK264.out 0).trans rfl, (blk_cell BK264.out 1).trans rfl, (blk_cell BK239.out 0).trans rfl, (blk_cell BK239.out 1).trans rfl⟩ (fun hHeld => ?_)
         clear hK K
         refine norm_ (a' := ?_) ?_ ?_
         rotate_left
         ·show Act.put _ (some 72) _ = _
          simp only [Act.put, List.setIfInBounds_toArray, List.set_cons_zero, List.set_cons_succ, i64_w, i32_w]
          rfl
         refine pure_ (i := 4) (N := some 73) (v := ?_) (a' := ?_) #[true, true, true, true, true] rfl rfl (by kernel_rfl) (fun _ _ _ h => h) (Or.inl ⟨by rfl, ?_⟩) ?_ ?_
         rotate_left
         ·intro w'
          go_simp
          with_reducible rfl
         rotate_left
         ·simp only [Act.put, List.setIfInBounds_toArray, List.set_cons_zero, List.set_cons_succ, i64_w, i32_w]
          rfl
         refine done_ (by kernel_rfl) ?_
         try go_wp2_with (first | ((with_reducible refine gate_callee (f := 19) rfl ?_); refine goesL_ (some 76) rfl rfl Try.func19 (by kernel_rfl) rfl #[.slice A2 l2.length c2] rfl (by (try simp only [List.map_toArray, List.map_cons, List.map_nil]); first | done | rfl | (simp only [List.length_drop, List.length_take]; rfl)) ?_; (with_reducible refine (laws_toIntSS.calls kj24 _ _ l2 t283 _ ?side1 ?side2 A61.out).mono ?_); (case side1 => repeat (first | exact (Kd.C_below HR2.out HB.out) | (with_reducible refine Kd.C_alloc ?_ _))); (case side2 => exact HC2.out); rintro e w142 ⟨v284, rfl, ho0, hb⟩; refine ⟨_, rfl, ?_⟩; have n0_ := Aside0.mk (Kd.R_below (by (with_reducible repeat apply Kd.R_alloc); exact HO_10.out) hb); have n1_ := Aside0.mk (Kd.S_elder' (by (with_reducible repeat apply Kd.S_alloc); exact HO_13.out) (Kd.S_base ho0) hb); have n2_ := Aside0.mk (Kd.R_below (by (with_reducible repeat apply Kd.R_alloc); exact HO_14.out) hb); have n3_ := Aside0.mk (Kd.R_below (by (with_reducible repeat apply Kd.R_alloc); exact HO_15.out) hb); have n4_ := Aside0.mk (Kd.R_below (by (with_reducible repeat apply Kd.R_alloc); exact HPa.out) hb); have n5_ := Aside0.mk (Kd.R_below (by (with_reducible repeat apply Kd.R_alloc); exact HPb.out) hb); have n6_ := Aside0.mk (Kd.R_below (by (with_reducible repeat apply Kd.R_alloc); exact HO278.out) hb); have n7_ := Aside0.mk (Kd.R_below (by (with_reducible repeat apply Kd.R_alloc); exact HO281.out) hb); have n8_ := Aside0.mk (Kd.S_lower (Kd.S_new' (Kd.S_new' (Kd.S_new' (Kd.S_new' (Kd.S_new' (Kd.S_new' (Kd.S_new' (Kd.S_new' ho0 (Kd.R_lt (by (with_reducible repeat apply Kd.R_alloc); exact HO_10.out))) (Kd.S_lt (by (with_reducible repeat apply Kd.S_alloc); exact HO_13.out))) (Kd.R_lt (by (with_reducible repeat apply Kd.R_alloc); exact HO_14.out))) (Kd.R_lt (by (with_reducible repeat apply Kd.R_alloc); exact HO_15.out))) (Kd.R_lt (by (with_reducible repeat apply Kd.R_alloc); exact HPa.out))) (Kd.R_lt (by (with_reducible repeat apply Kd.R_alloc); exact HPb.out))) (Kd.R_lt (by (with_reducible repeat apply Kd.R_alloc); exact HO278.out))) (Kd.R_lt (by (with_reducible repeat apply Kd.R_alloc); exact HO281.out))) (below_size (by repeat (first | (with_reducible first | exact HB.out | apply below_alloc | apply pw_below_drewN | apply below_drew1 | refine below_set ?_ GE239.out | refine below_set ?_ GE264.out) | exact HB.out)))); have n9_ := Aside0.mk (blk_below (g := gb239) (o := .cells #[.slice A0_0 l0_0.length c0_0, .slice A0_1 l0_1.length c0_1] 24 (0, 0)) (by (with_reducible repeat refine blk_alloc ?_ _); exact BK239.out) hb); have n10_ := Aside0.mk (blk_below (g := gb264) (o := .cells #[.slice Ao41 t258.length co41, .slice Ao44 t261.length co44] 29 (0, 0)) (by (with_reducible repeat refine blk_alloc ?_ _); exact BK264.out) hb); have n11_ := Aside0.mk (below_step (by repeat (first | (with_reducible first | exact HB.out | apply below_alloc | apply pw_below_drewN | apply below_drew1 | refine below_set ?_ GE239.out | refine below_set ?_ GE264.out) | exact HB.out)) hb); clear HO_10; clear HO_13; clear HO_14; clear HO_15; clear HPa; clear HPb; clear HO278; clear HO281; clear BK239; clear BK264; clear HB; have HO_10 := n0_; have HO_13 := n1_; have HO_14 := n2_; have HO_15 := n3_; have HPa := n4_; have HPb := n5_; have HO278 := n6_; have HO281 := n7_; have HO285 := n8_; have BK239 := n9_; have BK264 := n10_; have HB := n11_; clear n0_ n1_ n2_ n3_ n4_ n5_ n6_ n7_ n8_ n9_ n10_ n11_; (try clear hb); (try clear ho0); obtain ⟨Ao143, co143, eo143⟩ := Kd.S_slice HO285.out; subst eo143) | ((with_reducible refine gate_callee (f := 22) rfl ?_); refine goesL_ (some 77) rfl rfl Try.func22 (by kernel_rfl) rfl #[.slice Ao48 t265.length co48, .slice Ao143 t283.length co143] rfl (by (try simp only [List.map_toArray, List.map_cons, List.map_nil]); first | done | rfl | (simp only [List.length_drop, List.length_take]; rfl)) ?_; (with_reducible refine (laws_eqIntSS.calls kj24 _ _ t265 _ _ t283 false _ ?side1 ?side2 ?side3 ?side4 A62.out).mono ?_); (case side1 => repeat (first | exact (Kd.S_reads' HO_13.out).2.2 | (with_reducible refine Kd.C_alloc ?_ _))); (case side2 => exact (Kd.S_reads' HO_13.out).2.1); (case side3 => repeat (first | exact (Kd.S_reads' HO285.out).2.2 | (with_reducible refine Kd.C_alloc ?_ _))); (case side4 => exact (Kd.S_reads' HO285.out).2.1); rintro e w' ⟨rfl, ⟨nd, rfl⟩⟩; refine ⟨_, rfl, ?_⟩))
         go_ret
         exact ⟨by first | rfl | (simp [errW_none, errW_some] <;> rfl) | (simp [*, errW_none, errW_some] <;> rfl), by repeat (first | (with_reducible first | exact HB.out | apply below_alloc | apply pw_below_drewN | apply below_drew1 | refine below_set ?_ GE239.out | refine below_set ?_ GE264.out) | exact HB.out)⟩
       ·replace c60 := Bool.eq_false_iff.mpr c60
        subst c60
        have H1 : (some false) = some r := by rw [if_neg (show ¬ (false = true) by decide)] at H; exact H
        clear H
        have H := H1
        clear H1
        obtain rfl := Option.some.inj H
        try go_wp2
        have n0_ := Aside0.mk (Kd.R_drew HO_10.out)
        have n1_ := Aside0.mk (Kd.S_drew HO_13.out)
        have n2_ := Aside0.mk (Kd.R_drew HO_14.out)
        have n3_ := Aside0.mk (Kd.R_drew HO_15.out)
        have n4_ := Aside0.mk (Kd.R_drew HPa.out)
        have n5_ := Aside0.mk (Kd.R_drew HPb.out)
        have n6_ := Aside0.mk (blk_drew BK239.out)
        have n7_ := Aside0.mk (blk_drew BK264.out)
        have n8_ := Aside0.mk (below_drew1 HB.out)
        clear HO_10
        clear HO_13
        clear HO_14
        clear HO_15
        clear HPa
        clear HPb
        clear BK239
        clear BK264
        clear HB
        have HO_10 := n0_
        have HO_13 := n1_
        have HO_14 := n2_
        have HO_15 := n3_
        have HPa := n4_
        have HPb := n5_
        have BK239 := n6_
        have BK264 := n7_
        have HB := n8_
        clear n0_ n1_ n2_ n3_ n4_ n5_ n6_ n7_ n8_
        refine start_ (n := 5) (S := fun w' => w'.cell? ⟨gb264, 0, none⟩ = some (.slice Ao41 t258.length co41) ∧ w'.cell? ⟨gb264, 1, none⟩ = some (.slice Ao44 t261.length co44) ∧ w'.cell? ⟨gb239, 0, none⟩ = some (.slice A0_0 l0_0.length c0_0) ∧ w'.cell? ⟨gb239, 1, none⟩ = some (.slice A0_1 l0_1.length c0_1)) (ds := []) #[false, false, false, false, false] (by kernel_rfl) rfl rfl ⟨(blk_cell BK264.out 0).trans rfl, (blk_cell BK264.out 1).trans rfl, (blk_cell BK239.out 0).trans rfl, (blk_cell BK239.out 1).trans rfl⟩ (fun hHeld => ?_)
        generalize wc.drew = w144 at HO_10 HO_13 HO_14 HO_15 HPa HPb BK239 BK264 HB hHeld ⊢
        refine take_ (i := 0) (N := some 69) (v := ?_) (a' := ?_) #[true, false, false, false, false] rfl rfl (by kernel_rfl) (fun _ _ _ h => h) (Or.inl ⟨by rfl, ?_⟩) hHeld ?_ ?_
        rotate_left
        ·rintro w' ⟨s0, s1, s2, s3⟩
         go_simp
         with_reducible rfl
        rotate_left
        ·simp only [Act.put, List.setIfInBounds_toArray, List.set_cons_zero, List.set_cons_succ, i64_w, i32_w]
         rfl
        refine take_ (i := 1) (N := some 70) (v := ?_) (a' := ?_) #[true, true, false, false, false] rfl rfl (by kernel_rfl) (fun _ _ _ h => h) (Or.inl ⟨by rfl, ?_⟩) hHeld ?_ ?_
        rotate_left
        ·rintro w' ⟨s0, s1, s2, s3⟩
         go_simp
         with_reducible rfl
        rotate_left
        ·simp only [Act.put, List.setIfInBounds_toArray, List.set_cons_zero, List.set_cons_succ, i64_w, i32_w]
         rfl
        refine one_ (i := 2) (N := some 71) #[true, true, true, false, false] rfl rfl (by kernel_rfl) (by decide) (fun K hK => ?_)
        refine goes_ Try.func18 (by kernel_rfl) rfl #[.agg #[.slice A0_0 l0_0.length c0_0, .slice A0_1 l0_1.length c0_1]] (by rfl) rfl rfl (by (try simp only [List.map_toArray, List.map_cons, List.map_nil]); first | done | rfl | (simp only [List.length_drop, List.length_take]; rfl)) ?_
        with_reducible refine (laws_toMap.calls kj24 _ _ l0_0 _ _ l0_1 t276 t279 _ ?side1 ?side2 ?side3 ?side4 A58.out).mono ?_
        (case side1 => repeat (first | exact (Kd.C_below HR0_0.out HB.out) | (with_reducible refine Kd.C_alloc ?_ _) | (with_reducible refine Kd.C_drewN ?_ _) | (with_reducible refine Kd.C_drew ?_)))
        (case side2 => exact HC0_0.out)
        (case side3 => repeat (first | exact (Kd.C_below HR0_1.out HB.out) | (with_reducible refine Kd.C_alloc ?_ _) | (with_reducible refine Kd.C_drewN ?_ _) | (with_reducible refine Kd.C_drew ?_)))
        (case side4 => exact HC0_1.out)
        rintro e w145 ⟨v277, v280, rfl, ho0, ho1, hb⟩
        refine ⟨_, rfl, ?_⟩
        have n0_ := Aside0.mk (Kd.R_mono (Kd.R_told (Kd.R_told (Kd.R_old (by (with_reducible repeat (first | apply Kd.R_alloc | apply Kd.R_drewN | apply Kd.R_drew)); exact HO_10.out) hb) (Kd.R_base ho0)) (Kd.R_base ho1)) (fun _ h_ => h_.1))
        have n1_ := Aside0.mk (Kd.S_mono (Kd.S_told (Kd.S_told (Kd.S_old (by (with_reducible repeat (first | apply Kd.S_alloc | apply Kd.S_drewN | apply Kd.S_drew)); exact HO_13.out) hb) (Kd.R_base ho0)) (Kd.R_base ho1)) (fun _ h_ => h_.1))
        have n2_ := Aside0.mk (Kd.R_mono (Kd.R_told (Kd.R_told (Kd.R_old (by (with_reducible repeat (first | apply Kd.R_alloc | apply Kd.R_drewN | apply Kd.R_drew)); exact HO_14.out) hb) (Kd.R_base ho0)) (Kd.R_base ho1)) (fun _ h_ => h_.1))
        have n3_ := Aside0.mk (Kd.R_mono (Kd.R_told (Kd.R_told (Kd.R_old (by (with_reducible repeat (first | apply Kd.R_alloc | apply Kd.R_drewN | apply Kd.R_drew)); exact HO_15.out) hb) (Kd.R_base ho0)) (Kd.R_base ho1)) (fun _ h_ => h_.1))
        have n4_ := Aside0.mk (Kd.R_mono (Kd.R_told (Kd.R_told (Kd.R_old (by (with_reducible repeat (first | apply Kd.R_alloc | apply Kd.R_drewN | apply Kd.R_drew)); exact HPa.out) hb) (Kd.R_base ho0)) (Kd.R_base ho1)) (fun _ h_ => h_.1))
        have n5_ := Aside0.mk (Kd.R_mono (Kd.R_told (Kd.R_told (Kd.R_old (by (with_reducible repeat (first | apply Kd.R_alloc | apply Kd.R_drewN | apply Kd.R_drew)); exact HPb.out) hb) (Kd.R_base ho0)) (Kd.R_base ho1)) (fun _ h_ => h_.1))
        have n6_ := Aside0.mk (Kd.R_lower (Kd.R_new' (Kd.R_new' (Kd.R_new' (Kd.R_new' (Kd.R_new' ho0 (Kd.R_lt (by (with_reducible repeat (first | apply Kd.R_alloc | apply Kd.R_drewN | apply Kd.R_drew)); exact HO_10.out))) (Kd.R_lt (by (with_reducible repeat (first | apply Kd.R_alloc | apply Kd.R_drewN | apply Kd.R_drew)); exact HO_14.out))) (Kd.R_lt (by (with_reducible repeat (first | apply Kd.R_alloc | apply Kd.R_drewN | apply Kd.R_drew)); exact HO_15.out))) (Kd.R_lt (by (with_reducible repeat (first | apply Kd.R_alloc | apply Kd.R_drewN | apply Kd.R_drew)); exact HPa.out))) (Kd.R_lt (by (with_reducible repeat (first | apply Kd.R_alloc | apply Kd.R_drewN | apply Kd.R_drew)); exact HPb.out))) (below_size (by repeat (first | (with_reducible first | exact HB.out | apply below_alloc | apply pw_below_drewN | apply below_drew1 | refine below_set ?_ GE239.out | refine below_set ?_ GE264.out) | exact HB.out))))
        have n7_ := Aside0.mk (Kd.R_lower (Kd.R_new' (Kd.R_new' (Kd.R_new' (Kd.R_new' (Kd.R_new' ho1 (Kd.R_lt (by (with_reducible repeat (first | apply Kd.R_alloc | apply Kd.R_drewN | apply Kd.R_drew)); exact HO_10.out))) (Kd.R_lt (by (with_reducible repeat (first | apply Kd.R_alloc | apply Kd.R_drewN | apply Kd.R_drew)); exact HO_14.out))) (Kd.R_lt (by (with_reducible repeat (first | apply Kd.R_alloc | apply Kd.R_drewN | apply Kd.R_drew)); exact HO_15.out))) (Kd.R_lt (by (with_reducible repeat (first | apply Kd.R_alloc | apply Kd.R_drewN | apply Kd.R_drew)); exact HPa.out))) (Kd.R_lt (by (with_reducible repeat (first | apply Kd.R_alloc | apply Kd.R_drewN | apply Kd.R_drew)); exact HPb.out))) (below_size (by repeat (first | (with_reducible first | exact HB.out | apply below_alloc | apply pw_below_drewN | apply below_drew1 | refine below_set ?_ GE239.out | refine below_set ?_ GE264.out) | exact HB.out))))
        have n8_ := Aside0.mk (blk_below (g := gb239) (o := .cells #[.slice A0_0 l0_0.length c0_0, .slice A0_1 l0_1.length c0_1] 24 (0, 0)) (by (with_reducible repeat (first | refine blk_drewN ?_ _ | refine blk_drew ?_ | refine blk_alloc ?_ _)); exact BK239.out) hb)
        have n9_ := Aside0.mk (blk_below (g := gb264) (o := .cells #[.slice Ao41 t258.length co41, .slice Ao44 t261.length co44] 29 (0, 0)) (by (with_reducible repeat (first | refine blk_drewN ?_ _ | refine blk_drew ?_ | refine blk_alloc ?_ _)); exact BK264.out) hb)
        have n10_ := Aside0.mk (below_step (by repeat (first | (with_reducible first | exact HB.out | apply below_alloc | apply pw_below_drewN | apply below_drew1 | refine below_set ?_ GE239.out | refine below_set ?_ GE264.out) | exact HB.out)) hb)
        clear HO_10
        clear HO_13
        clear HO_14
        clear HO_15
        clear HPa
        clear HPb
        clear BK239
        clear BK264
        clear HB
        have HO_10 := n0_
        have HO_13 := n1_
        have HO_14 := n2_
        have HO_15 := n3_
        have HPa := n4_
        have HPb := n5_
        have HO278 := n6_
        have HO281 := n7_
        have BK239 := n8_
        have BK264 := n9_
        have HB := n10_
        clear n0_ n1_ n2_ n3_ n4_ n5_ n6_ n7_ n8_ n9_ n10_
        (try clear hb)
        (try clear hb2)
        (try clear hk)
        (try clear hi)
        (try clear ho0)
        (try clear ho1)
        obtain ⟨Ao146, co146, eo146⟩ := Kd.R_slice HO278.out
        (first | subst eo146 | (injection eo146 with f1_ f2_ f3_; have f4_ := f1_.symm; have f5_ := f3_.symm; clear f1_ f2_ f3_; subst f4_; subst f5_))
        obtain ⟨Ao147, co147, eo147⟩ := Kd.R_slice HO281.out
        (first | subst eo147 | (injection eo147 with f1_ f2_ f3_; have f4_ := f1_.symm; have f5_ := f3_.symm; clear f1_ f2_ f3_; subst f4_; subst f5_))
        refine hK.out _ _ ⟨(blk_cell BK264.out 0).trans rfl, (blk_cell BK264.out 1).trans rfl, (blk_cell BK239.out 0).trans rfl, (blk_cell BK239.out 1).trans rfl⟩ (fun hHeld => ?_)
        clear hK K
        refine norm_ (a' := ?_) ?_ ?_
        rotate_left
        ·show Act.put _ (some 71) _ = _
         simp only [Act.put, List.setIfInBounds_toArray, List.set_cons_zero, List.set_cons_succ, i64_w, i32_w]
         rfl
        refine one_ (i := 3) (N := some 72) #[true, true, true, true, false] rfl rfl (by kernel_rfl) (by decide) (fun K hK => ?_)
        refine goes_ Try.func21 (by kernel_rfl) rfl #[.agg #[.slice Ao41 t258.length co41, .slice Ao44 t261.length co44], .agg #[.slice Ao146 t276.length co146, .slice Ao147 t279.length co147]] (by rfl) rfl rfl (by (try simp only [List.map_toArray, List.map_cons, List.map_nil]); first | done | rfl | (simp only [List.length_drop, List.length_take]; rfl)) ?_
        with_reducible refine (laws_eqMap.calls kj24 _ _ t258 _ _ t261 _ _ t276 _ _ t279 false _ ?side1 ?side2 ?side3 ?side4 ?side5 ?side6 ?side7 ?side8 A59.out).mono ?_
        (case side1 => repeat (first | exact (Kd.R_reads' HPa.out).2.2 | (with_reducible refine Kd.C_alloc ?_ _) | (with_reducible refine Kd.C_drewN ?_ _) | (with_reducible refine Kd.C_drew ?_)))
        (case side2 => exact (Kd.R_reads' HPa.out).2.1)
        (case side3 => repeat (first | exact (Kd.R_reads' HPb.out).2.2 | (with_reducible refine Kd.C_alloc ?_ _) | (with_reducible refine Kd.C_drewN ?_ _) | (with_reducible refine Kd.C_drew ?_)))
        (case side4 => exact (Kd.R_reads' HPb.out).2.1)
        (case side5 => repeat (first | exact (Kd.R_reads' HO278.out).2.2 | (with_reducible refine Kd.C_alloc ?_ _) | (with_reducible refine Kd.C_drewN ?_ _) | (with_reducible refine Kd.C_drew ?_)))
        (case side6 => exact (Kd.R_reads' HO278.out).2.1)
        (case side7 => repeat (first | exact (Kd.R_reads' HO281.out).2.2 | (with_reducible refine Kd.C_alloc ?_ _) | (with_reducible refine Kd.C_drewN ?_ _) | (with_reducible refine Kd.C_drew ?_)))
        (case side8 => exact (Kd.R_reads' HO281.out).2.1)
        rintro e w148 ⟨rfl, hb⟩
        refine ⟨_, rfl, ?_⟩
        have n0_ := Aside0.mk (Kd.R_below (by (with_reducible repeat (first | apply Kd.R_alloc | apply Kd.R_drewN | apply Kd.R_drew)); exact HO_10.out) hb)
        have n1_ := Aside0.mk (Kd.S_below (by (with_reducible repeat (first | apply Kd.S_alloc | apply Kd.S_drewN | apply Kd.S_drew)); exact HO_13.out) hb)
        have n2_ := Aside0.mk (Kd.R_below (by (with_reducible repeat (first | apply Kd.R_alloc | apply Kd.R_drewN | apply Kd.R_drew)); exact HO_14.out) hb)
        have n3_ := Aside0.mk (Kd.R_below (by (with_reducible repeat (first | apply Kd.R_alloc | apply Kd.R_drewN | apply Kd.R_drew)); exact HO_15.out) hb)
        have n4_ := Aside0.mk (Kd.R_below (by (with_reducible repeat (first | apply Kd.R_alloc | apply Kd.R_drewN | apply Kd.R_drew)); exact HPa.out) hb)
        have n5_ := Aside0.mk (Kd.R_below (by (with_reducible repeat (first | apply Kd.R_alloc | apply Kd.R_drewN | apply Kd.R_drew)); exact HPb.out) hb)
        have n6_ := Aside0.mk (Kd.R_below (by (with_reducible repeat (first | apply Kd.R_alloc | apply Kd.R_drewN | apply Kd.R_drew)); exact HO278.out) hb)
        have n7_ := Aside0.mk (Kd.R_below (by (with_reducible repeat (first | apply Kd.R_alloc | apply Kd.R_drewN | apply Kd.R_drew)); exact HO281.out) hb)
        have n8_ := Aside0.mk (blk_below (g := gb239) (o := .cells #[.slice A0_0 l0_0.length c0_0, .slice A0_1 l0_1.length c0_1] 24 (0, 0)) (by (with_reducible repeat (first | refine blk_drewN ?_ _ | refine blk_drew ?_ | refine blk_alloc ?_ _)); exact BK239.out) hb)
        have n9_ := Aside0.mk (blk_below (g := gb264) (o := .cells #[.slice Ao41 t258.length co41, .slice Ao44 t261.length co44] 29 (0, 0)) (by (with_reducible repeat (first | refine blk_drewN ?_ _ | refine blk_drew ?_ | refine blk_alloc ?_ _)); exact BK264.out) hb)
        have n10_ := Aside0.mk (below_step (by repeat (first | (with_reducible first | exact HB.out | apply below_alloc | apply pw_below_drewN | apply below_drew1 | refine below_set ?_ GE239.out | refine below_set ?_ GE264.out) | exact HB.out)) hb)
        clear HO_10
        clear HO_13
        clear HO_14
        clear HO_15
        clear HPa
        clear HPb
        clear HO278
        clear HO281
        clear BK239
        clear BK264
        clear HB
        have HO_10 := n0_
        have HO_13 := n1_
        have HO_14 := n2_
        have HO_15 := n3_
        have HPa := n4_
        have HPb := n5_
        have HO278 := n6_
        have HO281 := n7_
        have BK239 := n8_
        have BK264 := n9_
        have HB := n10_
        clear n0_ n1_ n2_ n3_ n4_ n5_ n6_ n7_ n8_ n9_ n10_
        (try clear hb)
        (try clear hb2)
        (try clear hk)
        (try clear hi)
        refine hK.out _ _ ⟨(blk_cell BK264.out 0).trans rfl, (blk_cell BK264.out 1).trans rfl, (blk_cell BK239.out 0).trans rfl, (blk_cell BK239.out 1).trans rfl⟩ (fun hHeld => ?_)
        clear hK K
        refine norm_ (a' := ?_) ?_ ?_
        rotate_left
        ·show Act.put _ (some 72) _ = _
         simp only [Act.put, List.setIfInBounds_toArray, List.set_cons_zero, List.set_cons_succ, i64_w, i32_w]
         rfl
        refine pure_ (i := 4) (N := some 73) (v := ?_) (a' := ?_) #[true, true, true, true, true] rfl rfl (by kernel_rfl) (fun _ _ _ h => h) (Or.inl ⟨by rfl, ?_⟩) ?_ ?_
        rotate_left
        ·intro w'
         go_simp
         with_reducible rfl
        rotate_left
        ·simp only [Act.put, List.setIfInBounds_toArray, List.set_cons_zero, List.set_cons_succ, i64_w, i32_w]
         rfl
        refine done_ (by kernel_rfl) ?_
        try go_wp2
        go_ret
        exact ⟨by first | rfl | (simp [errW_none, errW_some] <;> rfl) | (simp [*, errW_none, errW_some] <;> rfl), by repeat (first | (with_reducible first | exact HB.out | apply below_alloc | apply pw_below_drewN | apply below_drew1 | refine below_set ?_ GE239.out | refine below_set ?_ GE264.out) | exact HB.out)⟩

end Go.Proofs.Ytmcgkckdnelcdaa.PFnExactCoverShift
