-- Made by a program of this session (wip/tools) out of the loaded program; not trusted: Lean checks it.
import Derived.Test.YtmcgkckdnelcdaaPFnExactCoverGenusx0
import Derived.Test.YtmcgkckdnelcdaaPFnExactCoverGenusx2
import Derived.Test.YtmcgkckdnelcdaaPFnExactCoverGenusx3
namespace Go.Proofs.Ytmcgkckdnelcdaa.PFnExactCoverGenus
open Go.RowKit Go.Proofs.YtmcgkckdnelcdaaW.PrintWords Go.Proofs.YtmcgkckdnelcdaaW.PrintLast Go.Proofs.YtmcgkckdnelcdaaW.PrintMore
attribute [local go_sem] max2_int min2_int max_two min_two max_three min_three max_four min_four   -- for this text's walks alone
set_option linter.unusedVariables false
set_option linter.unusedSimpArgs false

/-! ### spec_l9Cover: function 63 -/
mutual
def spec_l9Cover.l0 : Nat → Int → List (List Int) → Int → List Int → List Int → List Int → List Int → Option (List Int × List Int)
  | 0, _, _, _, _, _, _, _ => none
  | k + 1, x1, x2, x8, x203000, x203001, x211000, x211001 => if x8 < (x203000.length : Int) then ((spec_l9Volt.f k x203000 x203001 x2 x8).bind fun t211 => (spec_l9Cover.l1 k x1 x2 x8 t211 0 x203000 x203001 x211000 x211001)) else (some (x211000, x211001))
def spec_l9Cover.l1 : Nat → Int → List (List Int) → Int → List Int → Int → List Int → List Int → List Int → List Int → Option (List Int × List Int)
  | 0, _, _, _, _, _, _, _, _, _ => none
  | k + 1, x1, x2, x8, x9, x10, x203000, x203001, x211000, x211001 => if x10 < x1 then (if 0 ≤ x8 then (if x8 < (x203000.length : Int) then (if x211000.length < 17592186044416 then (if x8 < (x203001.length : Int) then (if 0 ≤ x10 then (if x10 < (x9.length : Int) then (if x211001.length < 17592186044416 then (spec_l9Cover.l1 k x1 x2 x8 x9 (wrap64 (x10 + 1)) x203000 x203001 (x211000 ++ [wrap64 ((wrap64 (x1 * (rd x203000 x8))) + x10)]) (x211001 ++ [wrap64 ((wrap64 (x1 * (rd x203001 x8))) + (rd x9 x10))])) else (none)) else (none)) else (none)) else (none)) else (none)) else (none)) else (none)) else (spec_l9Cover.l0 k x1 x2 (wrap64 (x8 + 1)) x203000 x203001 x211000 x211001)
end
def spec_l9Cover.f (k : Nat) (l0_0 : List Int) (l0_1 : List Int) (a1 : Int) (l2 : List (List Int)) : Option (List Int × List Int) := spec_l9Cover.l0 k a1 l2 0 l0_0 l0_1 (([] : List Int)) (([] : List Int))
def spec_l9Cover.T9 : Bool × List (List Nat × List Nat) := (true, [([], []), ([0], [0]), ([], []), ([], []), ([3], [3]), ([], []), ([4, 5], [4, 5]), ([6], [6]), ([2, 7], [2, 7]), ([], []), ([8, 9], [8, 9]), ([10], [10]), ([1, 11], [1, 11]), ([0, 1, 2, 3, 4, 5, 6, 7, 8, 9, 10, 11, 12], []), ([13, 12, 12, 0, 1, 2, 3, 4, 5, 6, 7, 8, 9, 10, 11, 12], [12, 13])])
def spec_l9Cover.B9 : List Nat := [0, 1, 0, 0, 8, 0, 56, 120, 252, 0, 1020, 2044, 4095, 8191, 16383]
theorem spec_l9Cover.tab9 : rtab .any (opsOf Try.f63 9) = spec_l9Cover.T9 := by kernel_rfl
theorem spec_l9Cover.bits9 : waitsOk spec_l9Cover.T9.2 spec_l9Cover.B9 = true := by kernel_rfl
def spec_l9Cover.T10 : Bool × List (List Nat × List Nat) := (true, [([], []), ([0], [0]), ([], []), ([], []), ([3], [3]), ([], []), ([4, 5], [4, 5]), ([6], [6]), ([2, 7], [2, 7]), ([], []), ([], []), ([9, 10], [9, 10]), ([11], [11]), ([8, 12], [8, 12]), ([13], [13]), ([1, 14], [1, 14]), ([0, 1, 2, 3, 4, 5, 6, 7, 8, 9, 10, 11, 12, 13, 14, 15], []), ([16, 15, 15, 0, 1, 2, 3, 4, 5, 6, 7, 8, 9, 10, 11, 12, 13, 14, 15], [15, 16])])
def spec_l9Cover.B10 : List Nat := [0, 1, 0, 0, 8, 0, 56, 120, 252, 0, 0, 1536, 3584, 8188, 16380, 32767, 65535, 131071]
theorem spec_l9Cover.tab10 : rtab .any (opsOf Try.f63 10) = spec_l9Cover.T10 := by kernel_rfl
theorem spec_l9Cover.bits10 : waitsOk spec_l9Cover.T10.2 spec_l9Cover.B10 = true := by kernel_rfl
set_option maxHeartbeats 8000000 in
set_option maxRecDepth 100000 in
theorem spec_l9Cover.calls (k : Nat) (A0_0 : Option Addr) (c0_0 : Nat) (l0_0 : List Int) (A0_1 : Option Addr) (c0_1 : Nat) (l0_1 : List Int) (a1 : Int) (A2 : Option Addr) (c2 : Nat) (l2 : List (List Int)) (r1 : List Int) (r2 : List Int) (w : World) (hr0_0 : Kd.C (Kd.int .i64) w A0_0 l0_0.length l0_0) (hc0_0 : l0_0.length ≤ c0_0) (hr0_1 : Kd.C (Kd.int .i64) w A0_1 l0_1.length l0_1) (hc0_1 : l0_1.length ≤ c0_1) (hr2 : Kd.C (Kd.slice 3 (Kd.int .i64)) w A2 l2.length l2) (hc2 : l2.length ≤ c2) (h : spec_l9Cover.f k l0_0 l0_1 a1 l2 = some (r1, r2)) :
    Calls Try.prog 63 #[.agg #[.slice A0_0 l0_0.length c0_0, .slice A0_1 l0_1.length c0_1], .int .i64 a1, .slice A2 l2.length c2] w fun e w' => ∃ v0_ v1_ : Value, e = .returned (.agg #[v0_, v1_]) ∧ Kd.R (Kd.int .i64) 3 w' w.heap.size (fun k_ => some k_ ≠ (v1_ : Value).ownBlock) v0_ r1 ∧ Kd.R (Kd.int .i64) 3 w' w.heap.size (fun k_ => some k_ ≠ (v0_ : Value).ownBlock) v1_ r2 ∧ Below w.heap.size w w' := by
 have hu29 := Try.underlying29
 have HR0_0 := A0_ hr0_0
 have HC0_0 := A0_ hc0_0
 clear hr0_0 hc0_0
 have HR0_1 := A0_ hr0_1
 have HC0_1 := A0_ hc0_1
 clear hr0_1 hc0_1
 have HR2 := A0_ hr2
 have HC2 := A0_ hc2
 clear hr2 hc2
 have HB := A0_ (Below.refl w.heap.size w)
 have H : (spec_l9Cover.l0 k a1 l2 0 l0_0 l0_1 (([] : List Int)) (([] : List Int))) = some (r1, r2) := h
 clear h
 obtain ⟨y204, hy204⟩ : ∃ y_ : List Int, y_ = (([] : List Int)) := ⟨_, rfl⟩
 replace H : (spec_l9Cover.l0 k a1 l2 0 l0_0 l0_1 y204 (([] : List Int))) = some (r1, r2) := by first | (rw [hy204]; with_reducible exact H) | (have H2_ := (Option.bind_some _ _).symm.trans H; rw [hy204]; with_reducible exact H2_) | (have H2_ := (Option.bind_some _ _).symm.trans H; with_reducible exact H2_) | with_reducible exact H | (rw [hy204]; exact H) | exact H
 have Ny204 := A0_ hy204
 clear hy204
 obtain ⟨y207, hy207⟩ : ∃ y_ : List Int, y_ = (([] : List Int)) := ⟨_, rfl⟩
 replace H : (spec_l9Cover.l0 k a1 l2 0 l0_0 l0_1 y204 y207) = some (r1, r2) := by first | (rw [hy207]; with_reducible exact H) | (have H2_ := (Option.bind_some _ _).symm.trans H; rw [hy207]; with_reducible exact H2_) | (have H2_ := (Option.bind_some _ _).symm.trans H; with_reducible exact H2_) | with_reducible exact H | (rw [hy207]; exact H) | exact H
 have Ny207 := A0_ hy207
 clear hy207
 have H' := A0_ H
 clear H
 go_enter Try.func63, Try.ntmps63
 go_wp2_with (first | ((with_reducible refine gD (N := 3) rfl ?_); refine box_event ?hg (N := 3) ?hd (cs := #[.slice A0_0 l0_0.length c0_0, .slice A0_1 l0_1.length c0_1]) (t := 29) ?hr ?_; (case hd => rfl); (case hg => rfl); (case hr => first | (go_simp; done) | (go_simp; rfl)); intro gb202 hg w4 hbox hb; have n0_ := A0_ (bT (by repeat (first | (with_reducible first | exact HB.out | apply bA | apply bN | apply bD) | exact HB.out)) hb); have n1_ := A0_ (hbox); have n2_ := A0_ ((by rw [hg]; exact (bZ (by repeat (first | (with_reducible first | exact HB.out | apply bA | apply bN | apply bD) | exact HB.out))) : w.heap.size ≤ gb202)); have n3_ := A0_ ((by rw [hg]; exact (bZ (by repeat (first | (with_reducible first | exact HB.out | apply bA | apply bN | apply bD) | exact HB.out))) : w.heap.size ≤ gb202)); clear HB; have HB := n0_; have BK202 := n1_; have GW202 := n2_; have GE202 := n3_; clear n0_ n1_ n2_ n3_; clear hb hbox hg) | ((with_reducible refine gD (N := 6) rfl ?_); refine box_event ?hg (N := 6) ?hd (cs := #[.slice none 0 0, .slice none 0 0]) (t := 29) ?hr ?_; (case hd => rfl); (case hg => rfl); (case hr => first | (go_simp; done) | (go_simp; rfl)); intro gb203 hg w5 hbox hb; have n0_ := A0_ (kB (g := gb202) (o := .cells #[.slice A0_0 l0_0.length c0_0, .slice A0_1 l0_1.length c0_1] 29 (0, 0)) (by (with_reducible repeat (first | refine kN ?_ _ | refine kD ?_ | refine kA ?_ _)); exact BK202.out) hb); have n1_ := A0_ (bT (by repeat (first | (with_reducible first | exact HB.out | apply bA | apply bN | apply bD | refine bS ?_ GE202.out) | exact HB.out)) hb); have n2_ := A0_ (hbox); have n3_ := A0_ ((by rw [hg]; exact (bZ (by repeat (first | (with_reducible first | exact HB.out | apply bA | apply bN | apply bD | refine bS ?_ GE202.out) | exact HB.out))) : w.heap.size ≤ gb203)); have n4_ := A0_ ((by rw [hg]; exact (bZ (by repeat (first | (with_reducible first | exact HB.out | apply bA | apply bN | apply bD | refine bS ?_ GE202.out) | exact HB.out))) : w.heap.size ≤ gb203)); have n5_ := A0_ ((by rw [hg]; exact Nat.ne_of_lt (kL (g := gb202) (o := .cells #[.slice A0_0 l0_0.length c0_0, .slice A0_1 l0_1.length c0_1] 29 (0, 0)) (by (with_reducible repeat (first | refine kN ?_ _ | refine kD ?_ | refine kA ?_ _)); exact BK202.out)) : gb202 ≠ gb203)); have n6_ := A0_ ((by rw [hg]; exact Nat.ne_of_gt (kL (g := gb202) (o := .cells #[.slice A0_0 l0_0.length c0_0, .slice A0_1 l0_1.length c0_1] 29 (0, 0)) (by (with_reducible repeat (first | refine kN ?_ _ | refine kD ?_ | refine kA ?_ _)); exact BK202.out)) : gb203 ≠ gb202)); clear BK202; clear HB; have BK202 := n0_; have HB := n1_; have BK203 := n2_; have GW203 := n3_; have GE203 := n4_; have NB202_203 := n5_; have NB203_202 := n6_; clear n0_ n1_ n2_ n3_ n4_ n5_ n6_; clear hb hbox hg) | ((with_reducible refine gD (N := 11) rfl ?_); refine Kd.R_lit (Kd.int .i64) _ 3 ?hg (N := 11) ?hd (xs := ([] : List Int)) (inner := []) (ok := fun _ => True) (okp := fun _ => True) ?hr ?hp (fun _ hk => hk) trivial (Below.refl _ _) (Nat.le_refl _) (by simp) ?_; (case hd => rfl); (case hg => rfl); (case hr => first | (go_simp; done) | (go_simp; rfl)); (case hp => exact (Reps.none _ _)); intro v205 w6 ho7 hb hg_ hnew_; clear hg_ hnew_; (first | rw [← Ny204.out] at ho7 | (simp only [Int.reduceToNat] at ho7; rw [← Ny204.out] at ho7)); have n0_ := A0_ (rL ho7 (bZ (by repeat (first | (with_reducible first | exact HB.out | apply bA | apply bN | apply bD | refine bS ?_ GE202.out | refine bS ?_ GE203.out) | exact HB.out)))); have n1_ := A0_ (kB (g := gb202) (o := .cells #[.slice A0_0 l0_0.length c0_0, .slice A0_1 l0_1.length c0_1] 29 (0, 0)) (by (with_reducible repeat (first | refine kN ?_ _ | refine kD ?_ | refine kA ?_ _)); exact BK202.out) hb); have n2_ := A0_ (kB (g := gb203) (o := .cells #[.slice none 0 0, .slice none 0 0] 29 (0, 0)) (by (with_reducible repeat (first | refine kN ?_ _ | refine kD ?_ | refine kA ?_ _)); exact BK203.out) hb); have n3_ := A0_ (bT (by repeat (first | (with_reducible first | exact HB.out | apply bA | apply bN | apply bD | refine bS ?_ GE202.out | refine bS ?_ GE203.out) | exact HB.out)) hb); clear BK202; clear BK203; clear HB; have HO206 := n0_; have BK202 := n1_; have BK203 := n2_; have HB := n3_; clear n0_ n1_ n2_ n3_; clear hb ho7) | ((with_reducible refine gD (N := 12) rfl ?_); refine Kd.R_lit (Kd.int .i64) _ 3 ?hg (N := 12) ?hd (xs := ([] : List Int)) (inner := []) (ok := fun _ => True) (okp := fun _ => True) ?hr ?hp (fun _ hk => hk) trivial (Below.refl _ _) (Nat.le_refl _) (by simp) ?_; (case hd => rfl); (case hg => rfl); (case hr => first | (go_simp; done) | (go_simp; rfl)); (case hp => exact (Reps.none _ _)); intro v208 w8 ho9 hb hg_ hnew_; clear hg_ hnew_; (first | rw [← Ny207.out] at ho9 | (simp only [Int.reduceToNat] at ho9; rw [← Ny207.out] at ho9)); have n0_ := A0_ (Kd.R_elder' (by (with_reducible repeat (first | apply rA | apply rN | apply rD)); exact HO206.out) (Kd.R_base ho9) hb); have n1_ := A0_ (rL (Kd.R_new' ho9 (rX (by (with_reducible repeat (first | apply rA | apply rN | apply rD)); exact HO206.out))) (bZ (by repeat (first | (with_reducible first | exact HB.out | apply bA | apply bN | apply bD | refine bS ?_ GE202.out | refine bS ?_ GE203.out) | exact HB.out)))); have n2_ := A0_ (kB (g := gb202) (o := .cells #[.slice A0_0 l0_0.length c0_0, .slice A0_1 l0_1.length c0_1] 29 (0, 0)) (by (with_reducible repeat (first | refine kN ?_ _ | refine kD ?_ | refine kA ?_ _)); exact BK202.out) hb); have n3_ := A0_ (kB (g := gb203) (o := .cells #[.slice none 0 0, .slice none 0 0] 29 (0, 0)) (by (with_reducible repeat (first | refine kN ?_ _ | refine kD ?_ | refine kA ?_ _)); exact BK203.out) hb); have n4_ := A0_ (bT (by repeat (first | (with_reducible first | exact HB.out | apply bA | apply bN | apply bD | refine bS ?_ GE202.out | refine bS ?_ GE203.out) | exact HB.out)) hb); clear HO206; clear BK202; clear BK203; clear HB; have HO206 := n0_; have HO209 := n1_; have BK202 := n2_; have BK203 := n3_; have HB := n4_; clear n0_ n1_ n2_ n3_ n4_; clear hb ho9; obtain ⟨Ao10, co10, eo10⟩ := rS HO209.out; subst eo10; obtain ⟨Ao11, co11, eo11⟩ := rS HO206.out; subst eo11) | ((with_reducible refine gD (N := 7) rfl ?_); refine box_event ?hg (N := 7) ?hd (cs := #[.slice none 0 0, .slice none 0 0]) (t := 29) ?hr ?_; (case hd => rfl); (case hg => rfl); (case hr => first | (go_simp; done) | (go_simp; rfl)); intro gb210 hg w12 hbox hb; have n0_ := A0_ (rB (by (with_reducible repeat (first | apply rA | apply rN | apply rD)); exact HO206.out) hb); have n1_ := A0_ (rB (by (with_reducible repeat (first | apply rA | apply rN | apply rD)); exact HO209.out) hb); have n2_ := A0_ (kB (g := gb202) (o := .cells #[.slice A0_0 l0_0.length c0_0, .slice A0_1 l0_1.length c0_1] 29 (0, 0)) (by (with_reducible repeat (first | refine kN ?_ _ | refine kD ?_ | refine kA ?_ _)); exact BK202.out) hb); have n3_ := A0_ (kB (g := gb203) (o := .cells #[.slice none 0 0, .slice none 0 0] 29 (0, 0)) (by (with_reducible repeat (first | refine kN ?_ _ | refine kD ?_ | refine kA ?_ _)); exact BK203.out) hb); have n4_ := A0_ (bT (by repeat (first | (with_reducible first | exact HB.out | apply bA | apply bN | apply bD | refine bS ?_ GE202.out | refine bS ?_ GE203.out) | exact HB.out)) hb); have n5_ := A0_ (hbox); have n6_ := A0_ ((by rw [hg]; exact (bZ (by repeat (first | (with_reducible first | exact HB.out | apply bA | apply bN | apply bD | refine bS ?_ GE202.out | refine bS ?_ GE203.out) | exact HB.out))) : w.heap.size ≤ gb210)); have n7_ := A0_ ((by rw [hg]; exact (bZ (by repeat (first | (with_reducible first | exact HB.out | apply bA | apply bN | apply bD | refine bS ?_ GE202.out | refine bS ?_ GE203.out) | exact HB.out))) : w.heap.size ≤ gb210)); have n8_ := A0_ ((by rw [hg]; exact Nat.ne_of_lt (kL (g := gb202) (o := .cells #[.slice A0_0 l0_0.length c0_0, .slice A0_1 l0_1.length c0_1] 29 (0, 0)) (by (with_reducible repeat (first | refine kN ?_ _ | refine kD ?_ | refine kA ?_ _)); exact BK202.out)) : gb202 ≠ gb210)); have n9_ := A0_ ((by rw [hg]; exact Nat.ne_of_gt (kL (g := gb202) (o := .cells #[.slice A0_0 l0_0.length c0_0, .slice A0_1 l0_1.length c0_1] 29 (0, 0)) (by (with_reducible repeat (first | refine kN ?_ _ | refine kD ?_ | refine kA ?_ _)); exact BK202.out)) : gb210 ≠ gb202)); have n10_ := A0_ ((by rw [hg]; exact Nat.ne_of_lt (kL (g := gb203) (o := .cells #[.slice none 0 0, .slice none 0 0] 29 (0, 0)) (by (with_reducible repeat (first | refine kN ?_ _ | refine kD ?_ | refine kA ?_ _)); exact BK203.out)) : gb203 ≠ gb210)); have n11_ := A0_ ((by rw [hg]; exact Nat.ne_of_gt (kL (g := gb203) (o := .cells #[.slice none 0 0, .slice none 0 0] 29 (0, 0)) (by (with_reducible repeat (first | refine kN ?_ _ | refine kD ?_ | refine kA ?_ _)); exact BK203.out)) : gb210 ≠ gb203)); clear HO206; clear HO209; clear BK202; clear BK203; clear HB; have HO206 := n0_; have HO209 := n1_; have BK202 := n2_; have BK203 := n3_; have HB := n4_; have BK210 := n5_; have GW210 := n6_; have GE210 := n7_; have NB202_210 := n8_; have NB210_202 := n9_; have NB203_210 := n10_; have NB210_203 := n11_; clear n0_ n1_ n2_ n3_ n4_ n5_ n6_ n7_ n8_ n9_ n10_ n11_; clear hb hbox hg; have hnb13 := NB210_202.out; have hnc13 := NB202_210.out; have hnb14 := NB210_203.out; have hnc14 := NB203_210.out; have hcz15_0 : w12.cell? ⟨gb210, 0, none⟩ = some (.slice none 0 0) := (kC BK210.out 0).trans rfl; have hcz15_1 : w12.cell? ⟨gb210, 1, none⟩ = some (.slice none 0 0) := (kC BK210.out 1).trans rfl; have hfz15_0 := kF BK210.out 0; have hfz15_1 := kF BK210.out 1))
 go_loopg [8] k (fun kq v8 w' => ∃ (x8_1 : Int) (x211000_1 : List Int) (x211001_1 : List Int) (u211000 : Value) (u211001 : Value), v8 = .int .i64 x8_1 ∧ Aside0 (spec_l9Cover.l0 kq a1 l2 x8_1 l0_0 l0_1 x211000_1 x211001_1 = some (r1, r2)) ∧ Aside0 (kq ≤ k) ∧ Aside0 (Kd.R (Kd.int .i64) 3 w' w.heap.size (fun k_ => some k_ ≠ (u211001 : Value).ownBlock) u211000 x211000_1) ∧ Aside0 (Kd.R (Kd.int .i64) 3 w' w.heap.size (fun k_ => some k_ ≠ (u211000 : Value).ownBlock) u211001 x211001_1) ∧ Aside0 (w'.heap[gb202]? = some (.cells #[(.slice A0_0 l0_0.length c0_0), (.slice A0_1 l0_1.length c0_1)] 29 (0, 0))) ∧ Aside0 (w'.heap[gb203]? = some (.cells #[(.slice none 0 0), (.slice none 0 0)] 29 (0, 0))) ∧ Aside0 (w'.heap[gb210]? = some (.cells #[u211000, u211001] 29 (0, 0))) ∧ Aside0 (Below w.heap.size w w'))
 case atStart => exact ⟨(0), (y204), (y207), (.slice Ao11 y204.length co11), (.slice Ao10 y207.length co10), (by first | rfl | (simp; done) | (simp [*]; done)), H', ⟨Nat.le_refl _⟩, ⟨by (with_reducible repeat (first | apply rA | apply rN | apply rD)); exact rM (rF (p := ⟨gb210, 1, none⟩) (rF (p := ⟨gb210, 0, none⟩) (rY HO206.out BK210.out (by decide)) (fun _ hk => hk.2) (.slice Ao11 y204.length co11)) (fun _ hk => hk.2) (.slice Ao10 y207.length co10)) (fun _ hk => hk.1.2)⟩, ⟨by (with_reducible repeat (first | apply rA | apply rN | apply rD)); exact rM (rF (p := ⟨gb210, 1, none⟩) (rF (p := ⟨gb210, 0, none⟩) (rY HO209.out BK210.out (by decide)) (fun _ hk => hk.2) (.slice Ao11 y204.length co11)) (fun _ hk => hk.2) (.slice Ao10 y207.length co10)) (fun _ hk => hk.1.2)⟩, ⟨by (with_reducible repeat (first | refine kN ?_ _ | refine kD ?_ | refine kA ?_ _)); refine blk_far ?_ NB202_210.out _; (with_reducible repeat (first | refine kN ?_ _ | refine kD ?_ | refine kA ?_ _)); refine blk_far ?_ NB202_210.out _; (with_reducible repeat (first | refine kN ?_ _ | refine kD ?_ | refine kA ?_ _)); exact BK202.out⟩, ⟨by (with_reducible repeat (first | refine kN ?_ _ | refine kD ?_ | refine kA ?_ _)); refine blk_far ?_ NB203_210.out _; (with_reducible repeat (first | refine kN ?_ _ | refine kD ?_ | refine kA ?_ _)); refine blk_far ?_ NB203_210.out _; (with_reducible repeat (first | refine kN ?_ _ | refine kD ?_ | refine kA ?_ _)); exact BK203.out⟩, ⟨by (with_reducible repeat (first | refine kN ?_ _ | refine kD ?_ | refine kA ?_ _)); refine blk_put (cs := #[.slice Ao11 y204.length co11, .slice none 0 0]) ?_ 1 _ rfl; (with_reducible repeat (first | refine kN ?_ _ | refine kD ?_ | refine kA ?_ _)); refine blk_put (cs := #[.slice none 0 0, .slice none 0 0]) ?_ 0 _ rfl; (with_reducible repeat (first | refine kN ?_ _ | refine kD ?_ | refine kA ?_ _)); exact BK210.out⟩, ⟨by repeat (first | (with_reducible first | exact HB.out | apply bA | apply bN | apply bD | refine bS ?_ GE202.out | refine bS ?_ GE203.out | refine bS ?_ GE210.out) | exact HB.out)⟩⟩
 case round =>
  clear H'
  try clear c1
  try clear c2
  try clear p2
  try clear c6
  try clear c13
  try clear c14
  try clear hcz15_0
  try clear hcz15_1
  try clear hfz15_0
  try clear hfz15_1
  obtain ⟨x8_1, x211000_1, x211001_1, u211000, u211001, rfl, HA, HK1, HO_211000, HO_211001, BK202, BK203, BK210, HB⟩ := hrel
  cases gk with
  | zero => exact absurd HA.out (by simp [spec_l9Cover.l0])
  | succ k1 =>
   have H := HA.out
   clear HA
   simp only [spec_l9Cover.l0] at H
   by_cases c16 : x8_1 < (l0_0.length : Int)
   ·rw [if_pos c16] at H
    have c16b0 : decide (x8_1 < (l0_0.length : Int)) = true := dT c16
    clear c16
    replace H := Option.bind_eq_some_iff.mp H
    obtain ⟨t211, A170, H⟩ := H
    replace H : (spec_l9Cover.l1 k1 a1 l2 x8_1 t211 0 l0_0 l0_1 x211000_1 x211001_1) = some (r1, r2) := H
    have A17 := A0_ A170
    clear A170
    have H' := A0_ H
    clear H
    have hnb18 := NB202_203.out
    have hnc18 := NB203_202.out
    have hnb19 := NB202_210.out
    have hnc19 := NB210_202.out
    have hcz20_0 : wr.cell? ⟨gb202, 0, none⟩ = some (.slice A0_0 l0_0.length c0_0) := (kC BK202.out 0).trans rfl
    have hcz20_1 : wr.cell? ⟨gb202, 1, none⟩ = some (.slice A0_1 l0_1.length c0_1) := (kC BK202.out 1).trans rfl
    have hfz20_0 := kF BK202.out 0
    have hfz20_1 := kF BK202.out 1
    go_wp2_with (first | ((with_reducible refine gC (f := 87) rfl ?_); refine goesL_ (some 24) rfl rfl Try.func87 (by kernel_rfl) rfl #[.agg #[.slice A0_0 l0_0.length c0_0, .slice A0_1 l0_1.length c0_1], .slice A2 l2.length c2, .int .i64 x8_1] rfl (by (try simp only [List.map_toArray, List.map_cons, List.map_nil]); first | done | rfl) ?_; (with_reducible refine (spec_l9Volt.calls k1 _ _ l0_0 _ _ l0_1 (fun k_ => k_ < w.heap.size) _ _ l2 x8_1 t211 _ ?side1 ?side2 ?side3 ?side4 ?side5 A17.out).mono ?_); (case side1 => repeat (first | exact (cB HR0_0.out HB.out) | (with_reducible refine cA ?_ _) | (with_reducible refine cN ?_ _) | (with_reducible refine cD ?_))); (case side2 => exact HC0_0.out); (case side3 => repeat (first | exact (cB HR0_1.out HB.out) | (with_reducible refine cA ?_ _) | (with_reducible refine cN ?_ _) | (with_reducible refine cD ?_))); (case side4 => exact HC0_1.out); (case side5 => exact Kd.V_mk HC2.out (Kd.F_below (Kd.C_F (Kd.heap_slice 3 (Kd.heap_int .i64)) HR2.out) (by repeat (first | (with_reducible first | exact HB.out | apply bA | apply bN | apply bD | refine bS ?_ GE202.out | refine bS ?_ GE203.out | refine bS ?_ GE210.out) | exact HB.out)))); rintro e w21 ⟨v212, rfl, ho0, hb⟩; refine ⟨_, rfl, ?_⟩; have n0_ := A0_ (rB (by (with_reducible repeat (first | apply rA | apply rN | apply rD)); exact HO_211000.out) hb); have n1_ := A0_ (rB (by (with_reducible repeat (first | apply rA | apply rN | apply rD)); exact HO_211001.out) hb); have n2_ := A0_ (Kd.V_lower (Kd.V_mono (ok' := fun k_ => some k_ ≠ (u211000 : Value).ownBlock ∧ some k_ ≠ (u211001 : Value).ownBlock ∧ k_ ≠ gb202 ∧ k_ ≠ gb203 ∧ k_ ≠ gb210) ho0 (fun k_ hk_ => ⟨Or.elim hk_ (fun hs_ => fun e_ => Nat.not_le.2 hs_ (Kd.R_base HO_211000.out k_ e_.symm)) (fun hn_ => (Kd.fresh' (rX (by (with_reducible repeat (first | apply rA | apply rN | apply rD)); exact HO_211000.out)) k_ hn_)), Or.elim hk_ (fun hs_ => fun e_ => Nat.not_le.2 hs_ (Kd.R_base HO_211001.out k_ e_.symm)) (fun hn_ => (Kd.fresh' (rX (by (with_reducible repeat (first | apply rA | apply rN | apply rD)); exact HO_211001.out)) k_ hn_)), Or.elim hk_ (fun hs_ => fun e_ => Nat.not_le.2 hs_ (by rw [e_]; exact GW202.out)) (fun hn_ => (Kd.freshB (g := gb202) (o := .cells #[.slice A0_0 l0_0.length c0_0, .slice A0_1 l0_1.length c0_1] 29 (0, 0)) (by (with_reducible repeat (first | refine kN ?_ _ | refine kD ?_ | refine kA ?_ _)); exact BK202.out) k_ hn_)), Or.elim hk_ (fun hs_ => fun e_ => Nat.not_le.2 hs_ (by rw [e_]; exact GW203.out)) (fun hn_ => (Kd.freshB (g := gb203) (o := .cells #[.slice none 0 0, .slice none 0 0] 29 (0, 0)) (by (with_reducible repeat (first | refine kN ?_ _ | refine kD ?_ | refine kA ?_ _)); exact BK203.out) k_ hn_)), Or.elim hk_ (fun hs_ => fun e_ => Nat.not_le.2 hs_ (by rw [e_]; exact GW210.out)) (fun hn_ => (Kd.freshB (g := gb210) (o := .cells #[u211000, u211001] 29 (0, 0)) (by (with_reducible repeat (first | refine kN ?_ _ | refine kD ?_ | refine kA ?_ _)); exact BK210.out) k_ hn_))⟩)) (bZ (by repeat (first | (with_reducible first | exact HB.out | apply bA | apply bN | apply bD | refine bS ?_ GE202.out | refine bS ?_ GE203.out | refine bS ?_ GE210.out) | exact HB.out)))); have n3_ := A0_ (kB (g := gb202) (o := .cells #[.slice A0_0 l0_0.length c0_0, .slice A0_1 l0_1.length c0_1] 29 (0, 0)) (by (with_reducible repeat (first | refine kN ?_ _ | refine kD ?_ | refine kA ?_ _)); exact BK202.out) hb); have n4_ := A0_ (kB (g := gb203) (o := .cells #[.slice none 0 0, .slice none 0 0] 29 (0, 0)) (by (with_reducible repeat (first | refine kN ?_ _ | refine kD ?_ | refine kA ?_ _)); exact BK203.out) hb); have n5_ := A0_ (kB (g := gb210) (o := .cells #[u211000, u211001] 29 (0, 0)) (by (with_reducible repeat (first | refine kN ?_ _ | refine kD ?_ | refine kA ?_ _)); exact BK210.out) hb); have n6_ := A0_ (bT (by repeat (first | (with_reducible first | exact HB.out | apply bA | apply bN | apply bD | refine bS ?_ GE202.out | refine bS ?_ GE203.out | refine bS ?_ GE210.out) | exact HB.out)) hb); clear HO_211000; clear HO_211001; clear BK202; clear BK203; clear BK210; clear HB; have HO_211000 := n0_; have HO_211001 := n1_; have HO213 := n2_; have BK202 := n3_; have BK203 := n4_; have BK210 := n5_; have HB := n6_; clear n0_ n1_ n2_ n3_ n4_ n5_ n6_; (try clear hb); (try clear hb2); (try clear hk); (try clear hi); (try clear ho0)))
    go_loopg [10] k1 (fun kq v10 w' => ∃ (x10_2 : Int) (x211000_2 : List Int) (x211001_2 : List Int) (u211000 : Value) (u211001 : Value), v10 = .int .i64 x10_2 ∧ Aside0 (spec_l9Cover.l1 kq a1 l2 x8_1 t211 x10_2 l0_0 l0_1 x211000_2 x211001_2 = some (r1, r2)) ∧ Aside0 (kq ≤ k1) ∧ Aside0 (Kd.V (Kd.int .i64) 3 w' w.heap.size (fun k_ => some k_ ≠ (u211000 : Value).ownBlock ∧ some k_ ≠ (u211001 : Value).ownBlock ∧ k_ ≠ gb202 ∧ k_ ≠ gb203 ∧ k_ ≠ gb210) v212 t211) ∧ Aside0 (Kd.R (Kd.int .i64) 3 w' w.heap.size (fun k_ => some k_ ≠ (u211001 : Value).ownBlock) u211000 x211000_2) ∧ Aside0 (Kd.R (Kd.int .i64) 3 w' w.heap.size (fun k_ => some k_ ≠ (u211000 : Value).ownBlock) u211001 x211001_2) ∧ Aside0 (w'.heap[gb202]? = some (.cells #[(.slice A0_0 l0_0.length c0_0), (.slice A0_1 l0_1.length c0_1)] 29 (0, 0))) ∧ Aside0 (w'.heap[gb203]? = some (.cells #[(.slice none 0 0), (.slice none 0 0)] 29 (0, 0))) ∧ Aside0 (w'.heap[gb210]? = some (.cells #[u211000, u211001] 29 (0, 0))) ∧ Aside0 (Below w.heap.size w w'))
    case atStart => exact ⟨(0), (x211000_1), (x211001_1), (u211000), (u211001), (by first | rfl | (simp; done) | (simp [*]; done)), H', ⟨Nat.le_refl _⟩, ⟨by (with_reducible repeat (first | apply Kd.V_alloc | apply Kd.V_drewN | apply Kd.V_drew)); exact HO213.out⟩, ⟨by (with_reducible repeat (first | apply rA | apply rN | apply rD)); exact HO_211000.out⟩, ⟨by (with_reducible repeat (first | apply rA | apply rN | apply rD)); exact HO_211001.out⟩, ⟨by (with_reducible repeat (first | refine kN ?_ _ | refine kD ?_ | refine kA ?_ _)); exact BK202.out⟩, ⟨by (with_reducible repeat (first | refine kN ?_ _ | refine kD ?_ | refine kA ?_ _)); exact BK203.out⟩, ⟨by (with_reducible repeat (first | refine kN ?_ _ | refine kD ?_ | refine kA ?_ _)); exact BK210.out⟩, ⟨by repeat (first | (with_reducible first | exact HB.out | apply bA | apply bN | apply bD | refine bS ?_ GE202.out | refine bS ?_ GE203.out | refine bS ?_ GE210.out) | exact HB.out)⟩⟩
    case round =>
     clear H'
     try clear c1
     try clear c2
     try clear p2
     try clear c6
     try clear c8
     try clear c13
     try clear c14
     try clear c16
     try clear c16b0
     try clear c18
     try clear c19
     try clear hcz15_0
     try clear hcz15_1
     try clear hcz20_0
     try clear hcz20_1
     try clear hfz15_0
     try clear hfz15_1
     try clear hfz20_0
     try clear hfz20_1
     try clear p2
     obtain ⟨x10_2, x211000_2, x211001_2, u211000, u211001, rfl, HA, HK2, HO_9, HO_211000, HO_211001, BK202, BK203, BK210, HB⟩ := hrel
     cases gk with
     | zero => exact absurd HA.out (by simp [spec_l9Cover.l1])
     | succ k2 =>
      have H := HA.out
      clear HA
      simp only [spec_l9Cover.l1] at H
      by_cases c22 : x10_2 < a1
      ·rw [if_pos c22] at H
       have c22b0 : decide (x10_2 < a1) = true := dT c22
       clear c22
       by_cases c23 : 0 ≤ x8_1
       ·rw [if_pos c23] at H
        have c23b0 : decide (0 ≤ x8_1) = true := dT c23
        clear c23
        by_cases c24 : x8_1 < (l0_0.length : Int)
        ·rw [if_pos c24] at H
         have c24b0 : decide (x8_1 < (l0_0.length : Int)) = true := dT c24
         clear c24
         by_cases c25 : x211000_2.length < 17592186044416
         ·rw [if_pos c25] at H
          have LMc25 := A0_ c25
          clear c25
          obtain ⟨y215, hy215⟩ : ∃ y_ : List Int, y_ = (x211000_2 ++ [wrap64 ((wrap64 (a1 * (rd l0_0 x8_1))) + x10_2)]) := ⟨_, rfl⟩
          replace H : (if x8_1 < (l0_1.length : Int) then (if 0 ≤ x10_2 then (if x10_2 < (t211.length : Int) then (if x211001_2.length < 17592186044416 then (spec_l9Cover.l1 k2 a1 l2 x8_1 t211 (wrap64 (x10_2 + 1)) l0_0 l0_1 y215 (x211001_2 ++ [wrap64 ((wrap64 (a1 * (rd l0_1 x8_1))) + (rd t211 x10_2))])) else (none)) else (none)) else (none)) else (none)) = some (r1, r2) := by first | (rw [hy215]; with_reducible exact H) | (have H2_ := (Option.bind_some _ _).symm.trans H; rw [hy215]; with_reducible exact H2_) | (have H2_ := (Option.bind_some _ _).symm.trans H; with_reducible exact H2_) | with_reducible exact H | (rw [hy215]; exact H) | exact H
          have Ny215 := A0_ hy215
          clear hy215
          by_cases c26 : x8_1 < (l0_1.length : Int)
          ·rw [if_pos c26] at H
           have c26b0 : decide (x8_1 < (l0_1.length : Int)) = true := dT c26
           clear c26
           by_cases c27 : 0 ≤ x10_2
           ·rw [if_pos c27] at H
            have c27b0 : decide (0 ≤ x10_2) = true := dT c27
            clear c27
            by_cases c28 : x10_2 < (t211.length : Int)
            ·rw [if_pos c28] at H
             have c28b0 : decide (x10_2 < (t211.length : Int)) = true := dT c28
             clear c28
             by_cases c29 : x211001_2.length < 17592186044416
             ·rw [if_pos c29] at H
              have LMc29 := A0_ c29
              clear c29
              obtain ⟨y220, hy220⟩ : ∃ y_ : List Int, y_ = (x211001_2 ++ [wrap64 ((wrap64 (a1 * (rd l0_1 x8_1))) + (rd t211 x10_2))]) := ⟨_, rfl⟩
              replace H : (spec_l9Cover.l1 k2 a1 l2 x8_1 t211 (wrap64 (x10_2 + 1)) l0_0 l0_1 y215 y220) = some (r1, r2) := by first | (rw [hy220]; with_reducible exact H) | (have H2_ := (Option.bind_some _ _).symm.trans H; rw [hy220]; with_reducible exact H2_) | (have H2_ := (Option.bind_some _ _).symm.trans H; with_reducible exact H2_) | with_reducible exact H | (rw [hy220]; exact H) | exact H
              have Ny220 := A0_ hy220
              clear hy220
              have H' := A0_ H
              clear H
              try go_wp2
              have n0_ := A0_ (Kd.V_drew HO_9.out)
              have n1_ := A0_ (rD HO_211000.out)
              have n2_ := A0_ (rD HO_211001.out)
              have n3_ := A0_ (kD BK202.out)
              have n4_ := A0_ (kD BK203.out)
              have n5_ := A0_ (kD BK210.out)
              have n6_ := A0_ (bD HB.out)
              clear HO_9
              clear HO_211000
              clear HO_211001
              clear BK202
              clear BK203
              clear BK210
              clear HB
              have HO_9 := n0_
              have HO_211000 := n1_
              have HO_211001 := n2_
              have BK202 := n3_
              have BK203 := n4_
              have BK210 := n5_
              have HB := n6_
              clear n0_ n1_ n2_ n3_ n4_ n5_ n6_
              have p214 : 0 ≤ (x8_1 : Int) := oD (by assumption)
              have q214 : x8_1 < (l0_0.length : Int) := oD (by assumption)
              obtain ⟨ad214, e214, hx214_0⟩ := tI HR0_0.out x8_1 p214 q214
              have hw214_0 := hx214_0
              cases e214
              replace hx214_0 := (HB.out.cell (wL w _ hx214_0)).trans hx214_0
              replace p214 := eq_true p214
              replace q214 := eq_true q214
              refine start_ (n := 15) (S := fun w' => w'.cell? ⟨gb210, 0, none⟩ = some (u211000) ∧ w'.cell? ⟨gb210, 1, none⟩ = some (u211001) ∧ w'.cell? ⟨gb202, 0, none⟩ = some (.slice (some ad214) l0_0.length c0_0) ∧ w'.cell? ⟨gb202, 1, none⟩ = some (.slice A0_1 l0_1.length c0_1) ∧ w'.cell? (ad214.add (x8_1).toNat) = some (.int .i64 (rd l0_0 x8_1))) (ds := [14]) #[false, false, false, false, false, false, false, false, false, false, false, false, false, false, false] (by kernel_rfl) rfl rfl ⟨(kC BK210.out 0).trans rfl, (kC BK210.out 1).trans rfl, (kC BK202.out 0).trans rfl, (kC BK202.out 1).trans rfl, ((HB.out.cell (wL w _ hw214_0)).trans hw214_0)⟩ (fun hHeld => ?_); refine with_tabW spec_l9Cover.tab9 spec_l9Cover.bits9 (fun HT_ HW_ => ?_)
              generalize wr.drew = w30 at HO_9 HO_211000 HO_211001 BK202 BK203 BK210 HB hx214_0 hHeld ⊢
              refine pure_ (i := 0) (N := some 30) (v := ?_) (a' := ?_) #[true, false, false, false, false, false, false, false, false, false, false, false, false, false, false] rfl rfl (any_of HT_.out (by kernel_rfl)) (fun _ _ _ h => h) (Or.inl ⟨by rfl, ?_⟩) ?_ ?_
              rotate_left
              ·intro w'
               go_simp
               with_reducible rfl
              rotate_left
              ·simp only [Act.put, List.setIfInBounds_toArray, List.set_cons_zero, List.set_cons_succ, i64_w, i32_w]
               rfl
              refine pure_ (i := 2) (N := some 32) (v := ?_) (a' := ?_) #[true, false, true, false, false, false, false, false, false, false, false, false, false, false, false] rfl rfl (any_of HT_.out (by kernel_rfl)) (fun _ _ _ h => h) (Or.inl ⟨by rfl, ?_⟩) ?_ ?_
              rotate_left
              ·intro w'
               go_simp
               with_reducible rfl
              rotate_left
              ·simp only [Act.put, List.setIfInBounds_toArray, List.set_cons_zero, List.set_cons_succ, i64_w, i32_w]
               rfl
              refine pure_ (i := 3) (N := some 33) (v := ?_) (a' := ?_) #[true, false, true, true, false, false, false, false, false, false, false, false, false, false, false] rfl rfl (any_of HT_.out (by kernel_rfl)) (fun _ _ _ h => h) (Or.inl ⟨by rfl, ?_⟩) ?_ ?_
              rotate_left
              ·intro w'
               go_simp
               with_reducible rfl
              rotate_left
              ·simp only [Act.put, List.setIfInBounds_toArray, List.set_cons_zero, List.set_cons_succ, i64_w, i32_w]
               rfl
              refine pure_ (i := 5) (N := some 35) (v := ?_) (a' := ?_) #[true, false, true, true, false, true, false, false, false, false, false, false, false, false, false] rfl rfl (any_of HT_.out (by kernel_rfl)) (fun _ _ _ h => h) (Or.inl ⟨by rfl, ?_⟩) ?_ ?_
              rotate_left
              ·intro w'
               go_simp
               with_reducible rfl
              rotate_left
              ·simp only [Act.put, List.setIfInBounds_toArray, List.set_cons_zero, List.set_cons_succ, i64_w, i32_w]
               rfl
              refine pure_ (i := 9) (N := some 39) (v := ?_) (a' := ?_) #[true, false, true, true, false, true, false, false, false, true, false, false, false, false, false] rfl rfl (any_of HT_.out (by kernel_rfl)) (fun _ _ _ h => h) (Or.inl ⟨by rfl, ?_⟩) ?_ ?_
              rotate_left
              ·intro w'
               go_simp
               with_reducible rfl
              rotate_left
              ·simp only [Act.put, List.setIfInBounds_toArray, List.set_cons_zero, List.set_cons_succ, i64_w, i32_w]
               rfl
              refine take_ (i := 1) (N := some 31) (v := ?_) (a' := ?_) #[true, true, true, true, false, true, false, false, false, true, false, false, false, false, false] rfl rfl (take_ofW HT_.out HW_.out (by kernel_rfl)) (fun _ _ _ h => h) (Or.inl ⟨by rfl, ?_⟩) hHeld ?_ ?_
              rotate_left
              ·rintro w' ⟨s0, s1, s2, s3, s4⟩
               go_simp
               with_reducible rfl
              rotate_left
              ·simp only [Act.put, List.setIfInBounds_toArray, List.set_cons_zero, List.set_cons_succ, i64_w, i32_w]
               rfl
              refine take_ (i := 4) (N := some 34) (v := ?_) (a' := ?_) #[true, true, true, true, true, true, false, false, false, true, false, false, false, false, false] rfl rfl (take_ofW HT_.out HW_.out (by kernel_rfl)) (fun _ _ _ h => h) (Or.inl ⟨by rfl, ?_⟩) hHeld ?_ ?_
              rotate_left
              ·rintro w' ⟨s0, s1, s2, s3, s4⟩
               go_simp
               with_reducible rfl
              rotate_left
              ·simp only [Act.put, List.setIfInBounds_toArray, List.set_cons_zero, List.set_cons_succ, i64_w, i32_w]
               rfl
              refine pure_ (i := 6) (N := some 36) (v := ?_) (a' := ?_) #[true, true, true, true, true, true, true, false, false, true, false, false, false, false, false] rfl rfl (any_of HT_.out (by kernel_rfl)) (fun _ _ _ h => h) (Or.inl ⟨by rfl, ?_⟩) ?_ ?_
              rotate_left
              ·intro w'
               go_simp
               with_reducible rfl
              rotate_left
              ·simp only [Act.put, List.setIfInBounds_toArray, List.set_cons_zero, List.set_cons_succ, i64_w, i32_w]
               rfl
              refine take_ (i := 7) (N := some 37) (v := ?_) (a' := ?_) #[true, true, true, true, true, true, true, true, false, true, false, false, false, false, false] rfl rfl (take_ofW HT_.out HW_.out (by kernel_rfl)) (fun _ _ _ h => h) (Or.inl ⟨by rfl, ?_⟩) hHeld ?_ ?_
              rotate_left
              ·rintro w' ⟨s0, s1, s2, s3, s4⟩
               go_simp
               with_reducible rfl
              rotate_left
              ·simp only [Act.put, List.setIfInBounds_toArray, List.set_cons_zero, List.set_cons_succ, i64_w, i32_w]
               rfl
              refine pure_ (i := 8) (N := some 38) (v := ?_) (a' := ?_) #[true, true, true, true, true, true, true, true, true, true, false, false, false, false, false] rfl rfl (any_of HT_.out (by kernel_rfl)) (fun _ _ _ h => h) (Or.inl ⟨by rfl, ?_⟩) ?_ ?_
              rotate_left
              ·intro w'
               go_simp
               with_reducible rfl
              rotate_left
              ·simp only [Act.put, List.setIfInBounds_toArray, List.set_cons_zero, List.set_cons_succ, i64_w, i32_w]
               rfl
              refine pure_ (i := 10) (N := some 40) (v := ?_) (a' := ?_) #[true, true, true, true, true, true, true, true, true, true, true, false, false, false, false] rfl rfl (any_of HT_.out (by kernel_rfl)) (fun _ _ _ h => h) (Or.inl ⟨by rfl, ?_⟩) ?_ ?_
              rotate_left
              ·intro w'
               go_simp
               with_reducible rfl
              rotate_left
              ·simp only [Act.put, List.setIfInBounds_toArray, List.set_cons_zero, List.set_cons_succ, i64_w, i32_w]
               rfl
              refine one_ (i := 11) (N := some 41) #[true, true, true, true, true, true, true, true, true, true, true, true, false, false, false] rfl rfl (one_of HT_.out (by kernel_rfl)) (by decide) (fun K hK => ?_)
              refine value_ (w1 := ?_) (v := ?_) (by rfl) rfl ?_ ?_
              rotate_left 2
              ·go_simp
               constructor
               ·rfl
               ·rfl
              refine hK.out _ _ ⟨(kC (kA BK210.out _) 0).trans rfl, (kC (kA BK210.out _) 1).trans rfl, (kC (kA BK202.out _) 0).trans rfl, (kC (kA BK202.out _) 1).trans rfl, (World.cell?_alloc_lt _ _ _ (wL _ _ (((HB.out.cell (wL w _ hw214_0)).trans hw214_0)))).trans (((HB.out.cell (wL w _ hw214_0)).trans hw214_0))⟩ (fun hHeld => ?_)
              clear hK K
              refine norm_ (a' := ?_) ?_ ?_
              rotate_left
              ·show Act.put _ (some 41) _ = _
               simp only [Act.put, List.setIfInBounds_toArray, List.set_cons_zero, List.set_cons_succ, i64_w, i32_w]
               rfl
              refine one_ (i := 12) (N := some 42) #[true, true, true, true, true, true, true, true, true, true, true, true, true, false, false] rfl rfl (one_of HT_.out (by kernel_rfl)) (by decide) (fun K hK => ?_)
              refine Kd.R_append_step (Kd.int .i64) (w0 := w) w.heap.size (by rfl) (.tmp 31) (.tmp 41) 22 3 (.int .i64 0) 8 rfl Try.underlying22 info3 rfl (by decide) (by omega) u211000 x211000_2 (wrap64 ((wrap64 (a1 * (rd l0_0 x8_1))) + x10_2)) [.int .i64 (wrap64 ((wrap64 (a1 * (rd l0_0 x8_1))) + x10_2))] (fun k_ => some k_ ≠ (u211001 : Value).ownBlock) (fun _ => False) rfl rfl ?aP (fun _ hk => hk.elim) ?aF ?aO ?aB ?aS ?aL ?_
              (case aP => exact rfl)
              (case aB => exact (by repeat (first | (with_reducible first | exact HB.out | apply bA | apply bN | apply bD | refine bS ?_ GE202.out | refine bS ?_ GE203.out | refine bS ?_ GE210.out) | exact HB.out)))
              (case aF => exact (fun k_ hk => Kd.fresh' (rX (by (with_reducible repeat (first | apply rA | apply rN | apply rD)); exact HO_211001.out)) k_ hk))
              (case aO => exact (by (with_reducible repeat (first | apply rA | apply rN | apply rD)); exact HO_211000.out))
              (case aS => exact (bZ (by repeat (first | (with_reducible first | exact HB.out | apply bA | apply bN | apply bD | refine bS ?_ GE202.out | refine bS ?_ GE203.out | refine bS ?_ GE210.out) | exact HB.out))))
              (case aL => have := LMc25.out; omega)
              intro v216 w31 ho hb hg hat
              rw [← Ny215.out] at ho
              have n0_ := A0_ (Kd.V_afterv (ok := (fun k_ => some k_ ≠ (u211001 : Value).ownBlock ∧ k_ ≠ gb202 ∧ k_ ≠ gb203 ∧ k_ ≠ gb210)) (by (with_reducible repeat (first | apply Kd.V_alloc | apply Kd.V_drewN | apply Kd.V_drew)); exact Kd.V_mono HO_9.out (fun _ hk => ⟨⟨hk.2.1, ⟨hk.2.2.1, ⟨hk.2.2.2.1, hk.2.2.2.2⟩⟩⟩, hk.1⟩)) hg hat)
              have n1_ := A0_ (Kd.R_after (ok := (fun _ => True)) (by (with_reducible repeat (first | apply rA | apply rN | apply rD)); exact rM HO_211001.out (fun _ hk => ⟨trivial, hk⟩)) hg hat)
              have n2_ := A0_ (blk_grown (g := gb202) (o := .cells #[.slice (some ad214) l0_0.length c0_0, .slice A0_1 l0_1.length c0_1] 29 (0, 0)) (by (with_reducible repeat (first | refine kN ?_ _ | refine kD ?_ | refine kA ?_ _)); exact BK202.out) hg (Kd.R_ne HO_211000.out BK202.out (by decide)))
              have n3_ := A0_ (blk_grown (g := gb203) (o := .cells #[.slice none 0 0, .slice none 0 0] 29 (0, 0)) (by (with_reducible repeat (first | refine kN ?_ _ | refine kD ?_ | refine kA ?_ _)); exact BK203.out) hg (Kd.R_ne HO_211000.out BK203.out (by decide)))
              have n4_ := A0_ (blk_grown (g := gb210) (o := .cells #[u211000, u211001] 29 (0, 0)) (by (with_reducible repeat (first | refine kN ?_ _ | refine kD ?_ | refine kA ?_ _)); exact BK210.out) hg (Kd.R_ne HO_211000.out BK210.out (by decide)))
              have n5_ := A0_ (hb)
              have n6_ := A0_ (ho)
              clear HO_9
              clear HO_211001
              clear BK202
              clear BK203
              clear BK210
              clear HB
              clear HO_211000
              have HO_9 := n0_
              have HO_211001 := n1_
              have BK202 := n2_
              have BK203 := n3_
              have BK210 := n4_
              have HB := n5_
              have HO217 := n6_
              clear n0_ n1_ n2_ n3_ n4_ n5_ n6_
              clear ho hb hg hat
              obtain ⟨Ao32, co32, eo32⟩ := rS HO217.out
              (first | subst eo32 | (injection eo32 with f1_ f2_ f3_; have f4_ := f1_.symm; have f5_ := f3_.symm; clear f1_ f2_ f3_; subst f4_; subst f5_))
              refine hK.out _ _ ⟨(kC BK210.out 0).trans rfl, (kC BK210.out 1).trans rfl, (kC BK202.out 0).trans rfl, (kC BK202.out 1).trans rfl, ((HB.out.cell (wL w _ hw214_0)).trans hw214_0)⟩ (fun hHeld => ?_)
              clear hK K
              refine norm_ (a' := ?_) ?_ ?_
              rotate_left
              ·show Act.put _ (some 42) _ = _
               simp only [Act.put, List.setIfInBounds_toArray, List.set_cons_zero, List.set_cons_succ, i64_w, i32_w]
               rfl
              refine pure_ (i := 13) (N := some 43) (v := ?_) (a' := ?_) #[true, true, true, true, true, true, true, true, true, true, true, true, true, true, false] rfl rfl (any_of HT_.out (by kernel_rfl)) (fun _ _ _ h => h) (Or.inl ⟨by rfl, ?_⟩) ?_ ?_
              rotate_left
              ·intro w'
               go_simp
               with_reducible rfl
              rotate_left
              ·simp only [Act.put, List.setIfInBounds_toArray, List.set_cons_zero, List.set_cons_succ, i64_w, i32_w]
               rfl
              refine last_ (i := 14) (N := none) #[true, true, true, true, true, true, true, true, true, true, true, true, true, true, true] rfl rfl (one_of HT_.out (by kernel_rfl)) (by decide) (fun K hK => ?_)
              have hs33 : w31.cell? ⟨gb210, 0, none⟩ = some (u211000) := (kC BK210.out 0).trans rfl
              have hfs33 := kF BK210.out 0
              have hns33_0 := NB202_210.out
              have hns33_1 := NB203_210.out
              have hms33_0 := NB210_202.out
              have hms33_1 := NB210_203.out
              refine skip_ (w1 := ?_) (by rfl) rfl ?_ ?_
              rotate_left
              ·go_simp
               rfl
              refine hK.out _ _ ?_
              clear hK K
              refine done_ (done_of HT_.out (by kernel_rfl)) ?_
              try go_wp2
              have n0_ : Aside0 (Kd.V (Kd.int .i64) 3 (w31.setCell ⟨gb210, 0, none⟩ (.slice Ao32 y215.length co32)) w.heap.size (fun k_ => some k_ ≠ (u211001 : Value).ownBlock ∧ some k_ ≠ (.slice Ao32 y215.length co32 : Value).ownBlock ∧ k_ ≠ gb202 ∧ k_ ≠ gb203 ∧ k_ ≠ gb210) v212 t211) := ⟨by (with_reducible repeat (first | apply Kd.V_alloc | apply Kd.V_drewN | apply Kd.V_drew)); exact Kd.V_mono (Kd.V_far (p := ⟨gb210, 0, none⟩) (Kd.V_mono HO_9.out (fun k_ hk => (⟨hk, hk.1.2.2.2⟩ : _ ∧ k_ ≠ gb210))) (fun _ hk => hk.2) (.slice Ao32 y215.length co32)) (fun _ hk => ⟨hk.1.1.1, ⟨hk.1.2, ⟨hk.1.1.2.1, ⟨hk.1.1.2.2.1, hk.1.1.2.2.2⟩⟩⟩⟩)⟩
              have n1_ : Aside0 (Kd.R (Kd.int .i64) 3 (w31.setCell ⟨gb210, 0, none⟩ (.slice Ao32 y215.length co32)) w.heap.size (fun k_ => some k_ ≠ (.slice Ao32 y215.length co32 : Value).ownBlock) u211001 x211001_2) := ⟨by (with_reducible repeat (first | apply rA | apply rN | apply rD)); exact rM (rF (p := ⟨gb210, 0, none⟩) (rY HO_211001.out BK210.out (by decide)) (fun _ hk => hk.2) (.slice Ao32 y215.length co32)) (fun _ hk => hk.1.2)⟩
              have n2_ : Aside0 (Kd.R (Kd.int .i64) 3 (w31.setCell ⟨gb210, 0, none⟩ (.slice Ao32 y215.length co32)) w.heap.size (fun k_ => some k_ ≠ (u211001 : Value).ownBlock) (.slice Ao32 y215.length co32) y215) := ⟨by (with_reducible repeat (first | apply rA | apply rN | apply rD)); exact rM (rF (p := ⟨gb210, 0, none⟩) (rY HO217.out BK210.out (by decide)) (fun _ hk => hk.2) (.slice Ao32 y215.length co32)) (fun _ hk => hk.1)⟩
              have n3_ : Aside0 ((w31.setCell ⟨gb210, 0, none⟩ (.slice Ao32 y215.length co32)).heap[gb202]? = some (.cells #[.slice (some ad214) l0_0.length c0_0, .slice A0_1 l0_1.length c0_1] 29 (0, 0))) := ⟨by (with_reducible repeat (first | refine kN ?_ _ | refine kD ?_ | refine kA ?_ _)); refine blk_far ?_ NB202_210.out _; (with_reducible repeat (first | refine kN ?_ _ | refine kD ?_ | refine kA ?_ _)); exact BK202.out⟩
              have n4_ : Aside0 ((w31.setCell ⟨gb210, 0, none⟩ (.slice Ao32 y215.length co32)).heap[gb203]? = some (.cells #[.slice none 0 0, .slice none 0 0] 29 (0, 0))) := ⟨by (with_reducible repeat (first | refine kN ?_ _ | refine kD ?_ | refine kA ?_ _)); refine blk_far ?_ NB203_210.out _; (with_reducible repeat (first | refine kN ?_ _ | refine kD ?_ | refine kA ?_ _)); exact BK203.out⟩
              have n5_ : Aside0 ((w31.setCell ⟨gb210, 0, none⟩ (.slice Ao32 y215.length co32)).heap[gb210]? = some (.cells #[.slice Ao32 y215.length co32, u211001] 29 (0, 0))) := ⟨by (with_reducible repeat (first | refine kN ?_ _ | refine kD ?_ | refine kA ?_ _)); refine blk_put (cs := #[u211000, u211001]) ?_ 0 _ rfl; (with_reducible repeat (first | refine kN ?_ _ | refine kD ?_ | refine kA ?_ _)); exact BK210.out⟩
              have n6_ : Aside0 (Below w.heap.size w (w31.setCell ⟨gb210, 0, none⟩ (.slice Ao32 y215.length co32))) := ⟨by repeat (first | (with_reducible first | exact HB.out | apply bA | apply bN | apply bD | refine bS ?_ GE202.out | refine bS ?_ GE203.out | refine bS ?_ GE210.out) | exact HB.out)⟩
              (try clear HO_9)
              (try clear HO_211001)
              (try clear HO217)
              (try clear BK202)
              (try clear BK203)
              (try clear BK210)
              (try clear HB)
              generalize (w31.setCell ⟨gb210, 0, none⟩ (.slice Ao32 y215.length co32)) = w34 at n0_ n1_ n2_ n3_ n4_ n5_ n6_ ⊢
              have HO_9 := n0_
              have HO_211001 := n1_
              have HO217 := n2_
              have BK202 := n3_
              have BK203 := n4_
              have BK210 := n5_
              have HB := n6_
              clear n0_ n1_ n2_ n3_ n4_ n5_ n6_
              have n0_ := A0_ (Kd.V_drew HO_9.out)
              have n1_ := A0_ (rD HO_211001.out)
              have n2_ := A0_ (rD HO217.out)
              have n3_ := A0_ (kD BK202.out)
              have n4_ := A0_ (kD BK203.out)
              have n5_ := A0_ (kD BK210.out)
              have n6_ := A0_ (bD HB.out)
              clear HO_9
              clear HO_211001
              clear HO217
              clear BK202
              clear BK203
              clear BK210
              clear HB
              have HO_9 := n0_
              have HO_211001 := n1_
              have HO217 := n2_
              have BK202 := n3_
              have BK203 := n4_
              have BK210 := n5_
              have HB := n6_
              clear n0_ n1_ n2_ n3_ n4_ n5_ n6_
              have p218 : 0 ≤ (x8_1 : Int) := oD (by assumption)
              have q218 : x8_1 < (l0_1.length : Int) := oD (by assumption)
              obtain ⟨ad218, e218, hx218_0⟩ := tI HR0_1.out x8_1 p218 q218
              have hw218_0 := hx218_0
              cases e218
              replace hx218_0 := (HB.out.cell (wL w _ hx218_0)).trans hx218_0
              replace p218 := eq_true p218
              replace q218 := eq_true q218
              obtain ⟨Ao36, co36, eo36⟩ := Kd.V_slice HO_9.out
              (first | subst eo36 | (injection eo36 with f1_ f2_ f3_; have f4_ := f1_.symm; have f5_ := f3_.symm; clear f1_ f2_ f3_; subst f4_; subst f5_))
              have p219 : 0 ≤ (x10_2 : Int) := oD (by assumption)
              have q219 : x10_2 < (t211.length : Int) := oD (by assumption)
              obtain ⟨ad219, e219, hx219_0⟩ := tI (Kd.V_reads' HO_9.out).2.2 x10_2 p219 q219
              cases e219
              replace p219 := eq_true p219
              replace q219 := eq_true q219
              refine start_ (n := 18) (S := fun w' => w'.cell? ⟨gb210, 0, none⟩ = some (.slice Ao32 y215.length co32) ∧ w'.cell? ⟨gb210, 1, none⟩ = some (u211001) ∧ w'.cell? ⟨gb202, 0, none⟩ = some (.slice (some ad214) l0_0.length c0_0) ∧ w'.cell? ⟨gb202, 1, none⟩ = some (.slice (some ad218) l0_1.length c0_1) ∧ w'.cell? (ad218.add (x8_1).toNat) = some (.int .i64 (rd l0_1 x8_1)) ∧ w'.cell? (ad219.add (x10_2).toNat) = some (.int .i64 (rd t211 x10_2))) (ds := [15, 17]) #[false, false, false, false, false, false, false, false, false, false, false, false, false, false, false, false, false, false] (by kernel_rfl) rfl rfl ⟨(kC BK210.out 0).trans rfl, (kC BK210.out 1).trans rfl, (kC BK202.out 0).trans rfl, (kC BK202.out 1).trans rfl, ((HB.out.cell (wL w _ hw218_0)).trans hw218_0), hx219_0⟩ (fun hHeld => ?_); refine with_tabW spec_l9Cover.tab10 spec_l9Cover.bits10 (fun HT_ HW_ => ?_)
              generalize w34.drew = w35 at HO_9 HO_211001 HO217 BK202 BK203 BK210 HB hx218_0 hx219_0 hHeld ⊢
              refine pure_ (i := 0) (N := some 44) (v := ?_) (a' := ?_) #[true, false, false, false, false, false, false, false, false, false, false, false, false, false, false, false, false, false] rfl rfl (any_of HT_.out (by kernel_rfl)) (fun _ _ _ h => h) (Or.inl ⟨by rfl, ?_⟩) ?_ ?_
              rotate_left
              ·intro w'
               go_simp
               with_reducible rfl
              rotate_left
              ·simp only [Act.put, List.setIfInBounds_toArray, List.set_cons_zero, List.set_cons_succ, i64_w, i32_w]
               rfl
              refine pure_ (i := 2) (N := some 46) (v := ?_) (a' := ?_) #[true, false, true, false, false, false, false, false, false, false, false, false, false, false, false, false, false, false] rfl rfl (any_of HT_.out (by kernel_rfl)) (fun _ _ _ h => h) (Or.inl ⟨by rfl, ?_⟩) ?_ ?_
              rotate_left
              ·intro w'
               go_simp
               with_reducible rfl
              rotate_left
              ·simp only [Act.put, List.setIfInBounds_toArray, List.set_cons_zero, List.set_cons_succ, i64_w, i32_w]
               rfl
              refine pure_ (i := 3) (N := some 47) (v := ?_) (a' := ?_) #[true, false, true, true, false, false, false, false, false, false, false, false, false, false, false, false, false, false] rfl rfl (any_of HT_.out (by kernel_rfl)) (fun _ _ _ h => h) (Or.inl ⟨by rfl, ?_⟩) ?_ ?_
              rotate_left
              ·intro w'
               go_simp
               with_reducible rfl
              rotate_left
              ·simp only [Act.put, List.setIfInBounds_toArray, List.set_cons_zero, List.set_cons_succ, i64_w, i32_w]
               rfl
              refine pure_ (i := 5) (N := some 49) (v := ?_) (a' := ?_) #[true, false, true, true, false, true, false, false, false, false, false, false, false, false, false, false, false, false] rfl rfl (any_of HT_.out (by kernel_rfl)) (fun _ _ _ h => h) (Or.inl ⟨by rfl, ?_⟩) ?_ ?_
              rotate_left
              ·intro w'
               go_simp
               with_reducible rfl
              rotate_left
              ·simp only [Act.put, List.setIfInBounds_toArray, List.set_cons_zero, List.set_cons_succ, i64_w, i32_w]
               rfl
              refine pure_ (i := 9) (N := some 53) (v := ?_) (a' := ?_) #[true, false, true, true, false, true, false, false, false, true, false, false, false, false, false, false, false, false] rfl rfl (any_of HT_.out (by kernel_rfl)) (fun _ _ _ h => h) (Or.inl ⟨by rfl, ?_⟩) ?_ ?_
              rotate_left
              ·intro w'
               go_simp
               with_reducible rfl
              rotate_left
              ·simp only [Act.put, List.setIfInBounds_toArray, List.set_cons_zero, List.set_cons_succ, i64_w, i32_w]
               rfl
              refine pure_ (i := 10) (N := some 54) (v := ?_) (a' := ?_) #[true, false, true, true, false, true, false, false, false, true, true, false, false, false, false, false, false, false] rfl rfl (any_of HT_.out (by kernel_rfl)) (fun _ _ _ h => h) (Or.inl ⟨by rfl, ?_⟩) ?_ ?_
              rotate_left
              ·intro w'
               go_simp
               with_reducible rfl
              rotate_left
              ·simp only [Act.put, List.setIfInBounds_toArray, List.set_cons_zero, List.set_cons_succ, i64_w, i32_w]
               rfl
              refine pure_ (i := 11) (N := some 55) (v := ?_) (a' := ?_) #[true, false, true, true, false, true, false, false, false, true, true, true, false, false, false, false, false, false] rfl rfl (any_of HT_.out (by kernel_rfl)) (fun _ _ _ h => h) (Or.inl ⟨by rfl, ?_⟩) ?_ ?_
              rotate_left
              ·intro w'
               go_simp
               with_reducible rfl
              rotate_left
              ·simp only [Act.put, List.setIfInBounds_toArray, List.set_cons_zero, List.set_cons_succ, i64_w, i32_w]
               rfl
              refine take_ (i := 1) (N := some 45) (v := ?_) (a' := ?_) #[true, true, true, true, false, true, false, false, false, true, true, true, false, false, false, false, false, false] rfl rfl (take_ofW HT_.out HW_.out (by kernel_rfl)) (fun _ _ _ h => h) (Or.inl ⟨by rfl, ?_⟩) hHeld ?_ ?_
              rotate_left
              ·rintro w' ⟨s0, s1, s2, s3, s4, s5⟩
               go_simp
               with_reducible rfl
              rotate_left
              ·simp only [Act.put, List.setIfInBounds_toArray, List.set_cons_zero, List.set_cons_succ, i64_w, i32_w]
               rfl
              refine take_ (i := 4) (N := some 48) (v := ?_) (a' := ?_) #[true, true, true, true, true, true, false, false, false, true, true, true, false, false, false, false, false, false] rfl rfl (take_ofW HT_.out HW_.out (by kernel_rfl)) (fun _ _ _ h => h) (Or.inl ⟨by rfl, ?_⟩) hHeld ?_ ?_
              rotate_left
              ·rintro w' ⟨s0, s1, s2, s3, s4, s5⟩
               go_simp
               with_reducible rfl
              rotate_left
              ·simp only [Act.put, List.setIfInBounds_toArray, List.set_cons_zero, List.set_cons_succ, i64_w, i32_w]
               rfl
              refine pure_ (i := 6) (N := some 50) (v := ?_) (a' := ?_) #[true, true, true, true, true, true, true, false, false, true, true, true, false, false, false, false, false, false] rfl rfl (any_of HT_.out (by kernel_rfl)) (fun _ _ _ h => h) (Or.inl ⟨by rfl, ?_⟩) ?_ ?_
              rotate_left
              ·intro w'
               go_simp
               with_reducible rfl
              rotate_left
              ·simp only [Act.put, List.setIfInBounds_toArray, List.set_cons_zero, List.set_cons_succ, i64_w, i32_w]
               rfl
              refine take_ (i := 7) (N := some 51) (v := ?_) (a' := ?_) #[true, true, true, true, true, true, true, true, false, true, true, true, false, false, false, false, false, false] rfl rfl (take_ofW HT_.out HW_.out (by kernel_rfl)) (fun _ _ _ h => h) (Or.inl ⟨by rfl, ?_⟩) hHeld ?_ ?_
              rotate_left
              ·rintro w' ⟨s0, s1, s2, s3, s4, s5⟩
               go_simp
               with_reducible rfl
              rotate_left
              ·simp only [Act.put, List.setIfInBounds_toArray, List.set_cons_zero, List.set_cons_succ, i64_w, i32_w]
               rfl
              refine pure_ (i := 8) (N := some 52) (v := ?_) (a' := ?_) #[true, true, true, true, true, true, true, true, true, true, true, true, false, false, false, false, false, false] rfl rfl (any_of HT_.out (by kernel_rfl)) (fun _ _ _ h => h) (Or.inl ⟨by rfl, ?_⟩) ?_ ?_
              rotate_left
              ·intro w'
               go_simp
               with_reducible rfl
              rotate_left
              ·simp only [Act.put, List.setIfInBounds_toArray, List.set_cons_zero, List.set_cons_succ, i64_w, i32_w]
               rfl
              refine take_ (i := 12) (N := some 56) (v := ?_) (a' := ?_) #[true, true, true, true, true, true, true, true, true, true, true, true, true, false, false, false, false, false] rfl rfl (take_ofW HT_.out HW_.out (by kernel_rfl)) (fun _ _ _ h => h) (Or.inl ⟨by rfl, ?_⟩) hHeld ?_ ?_
              rotate_left
              ·rintro w' ⟨s0, s1, s2, s3, s4, s5⟩
               go_simp
               with_reducible rfl
              rotate_left
              ·simp only [Act.put, List.setIfInBounds_toArray, List.set_cons_zero, List.set_cons_succ, i64_w, i32_w]
               rfl
              refine pure_ (i := 13) (N := some 57) (v := ?_) (a' := ?_) #[true, true, true, true, true, true, true, true, true, true, true, true, true, true, false, false, false, false] rfl rfl (any_of HT_.out (by kernel_rfl)) (fun _ _ _ h => h) (Or.inl ⟨by rfl, ?_⟩) ?_ ?_
              rotate_left
              ·intro w'
               go_simp
               with_reducible rfl
              rotate_left
              ·simp only [Act.put, List.setIfInBounds_toArray, List.set_cons_zero, List.set_cons_succ, i64_w, i32_w]
               rfl
              refine one_ (i := 14) (N := some 58) #[true, true, true, true, true, true, true, true, true, true, true, true, true, true, true, false, false, false] rfl rfl (one_of HT_.out (by kernel_rfl)) (by decide) (fun K hK => ?_)
              refine value_ (w1 := ?_) (v := ?_) (by rfl) rfl ?_ ?_
              rotate_left 2
              ·go_simp
               constructor
               ·rfl
               ·rfl
              refine hK.out _ _ ⟨(kC (kA BK210.out _) 0).trans rfl, (kC (kA BK210.out _) 1).trans rfl, (kC (kA BK202.out _) 0).trans rfl, (kC (kA BK202.out _) 1).trans rfl, (World.cell?_alloc_lt _ _ _ (wL _ _ (((HB.out.cell (wL w _ hw218_0)).trans hw218_0)))).trans (((HB.out.cell (wL w _ hw218_0)).trans hw218_0)), (World.cell?_alloc_lt _ _ _ (wL _ _ (hHeld.2.2.2.2.2))).trans (hHeld.2.2.2.2.2)⟩ (fun hHeld => ?_)
              clear hK K
              refine norm_ (a' := ?_) ?_ ?_
              rotate_left
              ·show Act.put _ (some 58) _ = _
               simp only [Act.put, List.setIfInBounds_toArray, List.set_cons_zero, List.set_cons_succ, i64_w, i32_w]
               rfl
              refine last_ (i := 15) (N := some 59) #[true, true, true, true, true, true, true, true, true, true, true, true, true, true, true, true, false, false] rfl rfl (one_of HT_.out (by kernel_rfl)) (by decide) (fun K hK => ?_)
              refine Kd.R_append_step (Kd.int .i64) (w0 := w) w.heap.size (by rfl) (.tmp 45) (.tmp 58) 22 3 (.int .i64 0) 8 rfl Try.underlying22 info3 rfl (by decide) (by omega) u211001 x211001_2 (wrap64 ((wrap64 (a1 * (rd l0_1 x8_1))) + (rd t211 x10_2))) [.int .i64 (wrap64 ((wrap64 (a1 * (rd l0_1 x8_1))) + (rd t211 x10_2)))] (fun k_ => some k_ ≠ (.slice Ao32 y215.length co32 : Value).ownBlock) (fun _ => False) rfl rfl ?aP (fun _ hk => hk.elim) ?aF ?aO ?aB ?aS ?aL ?_
              (case aP => exact rfl)
              (case aB => exact (by repeat (first | (with_reducible first | exact HB.out | apply bA | apply bN | apply bD | refine bS ?_ GE202.out | refine bS ?_ GE203.out | refine bS ?_ GE210.out) | exact HB.out)))
              (case aF => exact (fun k_ hk => Kd.fresh' (rX (by (with_reducible repeat (first | apply rA | apply rN | apply rD)); exact HO217.out)) k_ hk))
              (case aO => exact (by (with_reducible repeat (first | apply rA | apply rN | apply rD)); exact HO_211001.out))
              (case aS => exact (bZ (by repeat (first | (with_reducible first | exact HB.out | apply bA | apply bN | apply bD | refine bS ?_ GE202.out | refine bS ?_ GE203.out | refine bS ?_ GE210.out) | exact HB.out))))
              (case aL => have := LMc29.out; omega)
              intro v221 w37 ho hb hg hat
              rw [← Ny220.out] at ho
              have n0_ := A0_ (Kd.V_afterv (ok := (fun k_ => some k_ ≠ (.slice Ao32 y215.length co32 : Value).ownBlock ∧ k_ ≠ gb202 ∧ k_ ≠ gb203 ∧ k_ ≠ gb210)) (by (with_reducible repeat (first | apply Kd.V_alloc | apply Kd.V_drewN | apply Kd.V_drew)); exact Kd.V_mono HO_9.out (fun _ hk => ⟨⟨hk.2.1, ⟨hk.2.2.1, ⟨hk.2.2.2.1, hk.2.2.2.2⟩⟩⟩, hk.1⟩)) hg hat)
              have n1_ := A0_ (blk_grown (g := gb202) (o := .cells #[.slice (some ad214) l0_0.length c0_0, .slice (some ad218) l0_1.length c0_1] 29 (0, 0)) (by (with_reducible repeat (first | refine kN ?_ _ | refine kD ?_ | refine kA ?_ _)); exact BK202.out) hg (Kd.R_ne HO_211001.out BK202.out (by decide)))
              have n2_ := A0_ (blk_grown (g := gb203) (o := .cells #[.slice none 0 0, .slice none 0 0] 29 (0, 0)) (by (with_reducible repeat (first | refine kN ?_ _ | refine kD ?_ | refine kA ?_ _)); exact BK203.out) hg (Kd.R_ne HO_211001.out BK203.out (by decide)))
              have n3_ := A0_ (blk_grown (g := gb210) (o := .cells #[.slice Ao32 y215.length co32, u211001] 29 (0, 0)) (by (with_reducible repeat (first | refine kN ?_ _ | refine kD ?_ | refine kA ?_ _)); exact BK210.out) hg (Kd.R_ne HO_211001.out BK210.out (by decide)))
              have n4_ := A0_ (Kd.R_after (ok := (fun _ => True)) (by (with_reducible repeat (first | apply rA | apply rN | apply rD)); exact rM HO217.out (fun _ hk => ⟨trivial, hk⟩)) hg hat)
              have n5_ := A0_ (hb)
              have n6_ := A0_ (ho)
              clear HO_9
              clear BK202
              clear BK203
              clear BK210
              clear HO217
              clear HB
              clear HO_211001
              have HO_9 := n0_
              have BK202 := n1_
              have BK203 := n2_
              have BK210 := n3_
              have HO217 := n4_
              have HB := n5_
              have HO222 := n6_
              clear n0_ n1_ n2_ n3_ n4_ n5_ n6_
              clear ho hb hg hat
              obtain ⟨Ao38, co38, eo38⟩ := rS HO222.out
              (first | subst eo38 | (injection eo38 with f1_ f2_ f3_; have f4_ := f1_.symm; have f5_ := f3_.symm; clear f1_ f2_ f3_; subst f4_; subst f5_))
              refine hK.out _ _ ?_
              clear hK K
              refine norm_ (a' := ?_) ?_ ?_
              rotate_left
              ·show Act.put _ (some 59) _ = _
               simp only [Act.put, List.setIfInBounds_toArray, List.set_cons_zero, List.set_cons_succ, i64_w, i32_w]
               rfl
              refine pure_ (i := 16) (N := some 60) (v := ?_) (a' := ?_) #[true, true, true, true, true, true, true, true, true, true, true, true, true, true, true, true, true, false] rfl rfl (any_of HT_.out (by kernel_rfl)) (fun _ _ _ h => h) (Or.inl ⟨by rfl, ?_⟩) ?_ ?_
              rotate_left
              ·intro w'
               go_simp
               with_reducible rfl
              rotate_left
              ·simp only [Act.put, List.setIfInBounds_toArray, List.set_cons_zero, List.set_cons_succ, i64_w, i32_w]
               rfl
              refine last_ (i := 17) (N := none) #[true, true, true, true, true, true, true, true, true, true, true, true, true, true, true, true, true, true] rfl rfl (one_of HT_.out (by kernel_rfl)) (by decide) (fun K hK => ?_)
              have hs39 : w37.cell? ⟨gb210, 1, none⟩ = some (u211001) := (kC BK210.out 1).trans rfl
              have hfs39 := kF BK210.out 1
              have hns39_0 := NB202_210.out
              have hns39_1 := NB203_210.out
              have hms39_0 := NB210_202.out
              have hms39_1 := NB210_203.out
              refine skip_ (w1 := ?_) (by rfl) rfl ?_ ?_
              rotate_left
              ·go_simp
               rfl
              refine hK.out _ _ ?_
              clear hK K
              refine done_ (done_of HT_.out (by kernel_rfl)) ?_
              try go_wp2
              go_roundg k2
              case measure => have := HK1.out; have := HK2.out; omega
              case rel => exact ⟨(wrap64 (x10_2 + 1)), (y215), (y220), (.slice Ao32 y215.length co32), (.slice Ao38 y220.length co38), (by first | rfl | (simp; done) | (simp [*]; done)), H', ⟨by have := HK1.out; have := HK2.out; omega⟩, ⟨by (with_reducible repeat (first | apply Kd.V_alloc | apply Kd.V_drewN | apply Kd.V_drew)); exact Kd.V_mono (Kd.V_far (p := ⟨gb210, 1, none⟩) (Kd.V_mono HO_9.out (fun k_ hk => (⟨hk, hk.1.2.2.2⟩ : _ ∧ k_ ≠ gb210))) (fun _ hk => hk.2) (.slice Ao38 y220.length co38)) (fun _ hk => ⟨hk.1.1.1, ⟨hk.1.2, ⟨hk.1.1.2.1, ⟨hk.1.1.2.2.1, hk.1.1.2.2.2⟩⟩⟩⟩)⟩, ⟨by (with_reducible repeat (first | apply rA | apply rN | apply rD)); exact rM (rF (p := ⟨gb210, 1, none⟩) (rY HO217.out BK210.out (by decide)) (fun _ hk => hk.2) (.slice Ao38 y220.length co38)) (fun _ hk => hk.1.2)⟩, ⟨by (with_reducible repeat (first | apply rA | apply rN | apply rD)); exact rM (rF (p := ⟨gb210, 1, none⟩) (rY HO222.out BK210.out (by decide)) (fun _ hk => hk.2) (.slice Ao38 y220.length co38)) (fun _ hk => hk.1)⟩, ⟨by (with_reducible repeat (first | refine kN ?_ _ | refine kD ?_ | refine kA ?_ _)); refine blk_far ?_ NB202_210.out _; (with_reducible repeat (first | refine kN ?_ _ | refine kD ?_ | refine kA ?_ _)); exact BK202.out⟩, ⟨by (with_reducible repeat (first | refine kN ?_ _ | refine kD ?_ | refine kA ?_ _)); refine blk_far ?_ NB203_210.out _; (with_reducible repeat (first | refine kN ?_ _ | refine kD ?_ | refine kA ?_ _)); exact BK203.out⟩, ⟨by (with_reducible repeat (first | refine kN ?_ _ | refine kD ?_ | refine kA ?_ _)); refine blk_put (cs := #[.slice Ao32 y215.length co32, u211001]) ?_ 1 _ rfl; (with_reducible repeat (first | refine kN ?_ _ | refine kD ?_ | refine kA ?_ _)); exact BK210.out⟩, ⟨by repeat (first | (with_reducible first | exact HB.out | apply bA | apply bN | apply bD | refine bS ?_ GE202.out | refine bS ?_ GE203.out | refine bS ?_ GE210.out) | exact HB.out)⟩⟩
             ·rw [if_neg c29] at H
              exact absurd H (by simp)
            ·rw [if_neg c28] at H
             exact absurd H (by simp)
           ·rw [if_neg c27] at H
            exact absurd H (by simp)
          ·rw [if_neg c26] at H
           exact absurd H (by simp)
         ·rw [if_neg c25] at H
          exact absurd H (by simp)
        ·rw [if_neg c24] at H
         exact absurd H (by simp)
       ·rw [if_neg c23] at H
        exact absurd H (by simp)
      ·rw [if_neg c22] at H
       have c22b0 : decide (x10_2 < a1) = false := dF c22
       clear c22
       have H' := A0_ H
       clear H
       go_wp2
       go_roundg k2
       case measure => have := HK1.out; have := HK2.out; omega
       case rel => exact ⟨(wrap64 (x8_1 + 1)), (x211000_2), (x211001_2), (u211000), (u211001), (by first | rfl | (simp; done) | (simp [*]; done)), H', ⟨by have := HK1.out; have := HK2.out; omega⟩, ⟨by (with_reducible repeat (first | apply rA | apply rN | apply rD)); exact HO_211000.out⟩, ⟨by (with_reducible repeat (first | apply rA | apply rN | apply rD)); exact HO_211001.out⟩, ⟨by (with_reducible repeat (first | refine kN ?_ _ | refine kD ?_ | refine kA ?_ _)); exact BK202.out⟩, ⟨by (with_reducible repeat (first | refine kN ?_ _ | refine kD ?_ | refine kA ?_ _)); exact BK203.out⟩, ⟨by (with_reducible repeat (first | refine kN ?_ _ | refine kD ?_ | refine kA ?_ _)); exact BK210.out⟩, ⟨by repeat (first | (with_reducible first | exact HB.out | apply bA | apply bN | apply bD | refine bS ?_ GE202.out | refine bS ?_ GE203.out | refine bS ?_ GE210.out) | exact HB.out)⟩⟩
   ·rw [if_neg c16] at H
    have c16b0 : decide (x8_1 < (l0_0.length : Int)) = false := dF c16
    clear c16
    simp only [Option.some.injEq, Prod.mk.injEq] at H
    obtain ⟨rfl, rfl⟩ := H
    have hnb40 := NB202_203.out
    have hnc40 := NB203_202.out
    have hnb41 := NB202_210.out
    have hnc41 := NB210_202.out
    have hcz42_0 : wr.cell? ⟨gb202, 0, none⟩ = some (.slice A0_0 l0_0.length c0_0) := (kC BK202.out 0).trans rfl
    have hcz42_1 : wr.cell? ⟨gb202, 1, none⟩ = some (.slice A0_1 l0_1.length c0_1) := (kC BK202.out 1).trans rfl
    have hfz42_0 := kF BK202.out 0
    have hfz42_1 := kF BK202.out 1
    have hnb43 := NB210_203.out
    have hnc43 := NB203_210.out
    have hcz44_0 : wr.cell? ⟨gb210, 0, none⟩ = some (u211000) := (kC BK210.out 0).trans rfl
    have hcz44_1 : wr.cell? ⟨gb210, 1, none⟩ = some (u211001) := (kC BK210.out 1).trans rfl
    have hfz44_0 := kF BK210.out 0
    have hfz44_1 := kF BK210.out 1
    obtain ⟨Ao45, co45, eo45⟩ := rS HO_211000.out
    subst eo45
    have hcz46_0 : wr.cell? ⟨gb203, 0, none⟩ = some (.slice none 0 0) := (kC BK203.out 0).trans rfl
    have hcz46_1 : wr.cell? ⟨gb203, 1, none⟩ = some (.slice none 0 0) := (kC BK203.out 1).trans rfl
    have hfz46_0 := kF BK203.out 0
    have hfz46_1 := kF BK203.out 1
    obtain ⟨Ao47, co47, eo47⟩ := rS HO_211001.out
    subst eo47
    go_wp2
    refine bodyPost_ret (results_cell_row rfl _ _ gb203 29 #[.slice Ao45 x211000_1.length co45, .slice Ao47 x211001_1.length co47] (0, 0) _ rfl (by (with_reducible repeat (first | refine kN ?_ _ | refine kD ?_ | refine kA ?_ _)); refine blk_put (cs := #[.slice Ao45 x211000_1.length co45, .slice none 0 0]) ?_ 1 _ rfl; (with_reducible repeat (first | refine kN ?_ _ | refine kD ?_ | refine kA ?_ _)); refine blk_put (cs := #[.slice none 0 0, .slice none 0 0]) ?_ 0 _ rfl; (with_reducible repeat (first | refine kN ?_ _ | refine kD ?_ | refine kA ?_ _)); exact BK203.out) Try.underlying29 rfl (by kernel_rfl)) rfl ?_
    exact ⟨_, _, by first | rfl | (simp [*] <;> rfl), by (with_reducible repeat (first | apply rA | apply rN | apply rD)); exact rM (rF (p := ⟨gb203, 1, none⟩) (rF (p := ⟨gb203, 0, none⟩) (rY HO_211000.out BK203.out (by decide)) (fun _ hk => hk.2) (.slice Ao45 x211000_1.length co45)) (fun _ hk => hk.2) (.slice Ao47 x211001_1.length co47)) (fun _ hk => hk.1), by (with_reducible repeat (first | apply rA | apply rN | apply rD)); exact rM (rF (p := ⟨gb203, 1, none⟩) (rF (p := ⟨gb203, 0, none⟩) (rY HO_211001.out BK203.out (by decide)) (fun _ hk => hk.2) (.slice Ao45 x211000_1.length co45)) (fun _ hk => hk.2) (.slice Ao47 x211001_1.length co47)) (fun _ hk => hk.1), by repeat (first | (with_reducible first | exact HB.out | apply bA | apply bN | apply bD | refine bS ?_ GE202.out | refine bS ?_ GE203.out | refine bS ?_ GE210.out) | exact HB.out)⟩

/-! ### spec_CoverWhole: function 34 -/
def spec_CoverWhole.f (k : Nat) (l0_0 : List Int) (l0_1 : List Int) (a1 : Int) (l2 : List (List Int)) : Option (Bool) := (spec_VoltageValid.f k l0_0 l0_1 a1 l2).bind fun t224 => (if t224 = true then ((spec_l9Cover.f k l0_0 l0_1 a1 l2).bind fun bt225 => ((spec_MapValid.f k bt225.1 bt225.2).bind fun t231 => (some t231))) else (some false))
set_option maxHeartbeats 8000000 in
set_option maxRecDepth 100000 in
theorem spec_CoverWhole.calls (k : Nat) (A0_0 : Option Addr) (c0_0 : Nat) (l0_0 : List Int) (A0_1 : Option Addr) (c0_1 : Nat) (l0_1 : List Int) (a1 : Int) (A2 : Option Addr) (c2 : Nat) (l2 : List (List Int)) (r : Bool) (w : World) (hr0_0 : Kd.C (Kd.int .i64) w A0_0 l0_0.length l0_0) (hc0_0 : l0_0.length ≤ c0_0) (hr0_1 : Kd.C (Kd.int .i64) w A0_1 l0_1.length l0_1) (hc0_1 : l0_1.length ≤ c0_1) (hr2 : Kd.C (Kd.slice 3 (Kd.int .i64)) w A2 l2.length l2) (hc2 : l2.length ≤ c2) (h : spec_CoverWhole.f k l0_0 l0_1 a1 l2 = some r) :
    Calls Try.prog 34 #[.agg #[.slice A0_0 l0_0.length c0_0, .slice A0_1 l0_1.length c0_1], .int .i64 a1, .slice A2 l2.length c2] w fun e w' => e = .returned (.bool r) ∧ Below w.heap.size w w' := by
 have hu29 := Try.underlying29
 have HR0_0 := A0_ hr0_0
 have HC0_0 := A0_ hc0_0
 clear hr0_0 hc0_0
 have HR0_1 := A0_ hr0_1
 have HC0_1 := A0_ hc0_1
 clear hr0_1 hc0_1
 have HR2 := A0_ hr2
 have HC2 := A0_ hc2
 clear hr2 hc2
 have HB := A0_ (Below.refl w.heap.size w)
 have H : ((spec_VoltageValid.f k l0_0 l0_1 a1 l2).bind fun t224 => (if t224 = true then ((spec_l9Cover.f k l0_0 l0_1 a1 l2).bind fun bt225 => ((spec_MapValid.f k bt225.1 bt225.2).bind fun t231 => (some t231))) else (some false))) = some r := h
 clear h
 replace H := Option.bind_eq_some_iff.mp H
 obtain ⟨t224, A40, H⟩ := H
 replace H : (if t224 = true then ((spec_l9Cover.f k l0_0 l0_1 a1 l2).bind fun bt225 => ((spec_MapValid.f k bt225.1 bt225.2).bind fun t231 => (some t231))) else (some false)) = some r := H
 have A4 := A0_ A40
 clear A40
 by_cases c5 : t224 = true
 ·subst c5
  have H1 : ((spec_l9Cover.f k l0_0 l0_1 a1 l2).bind fun bt225 => ((spec_MapValid.f k bt225.1 bt225.2).bind fun t231 => (some t231))) = some r := by rw [if_pos rfl] at H; exact H
  clear H
  have H := H1
  clear H1
  replace H := Option.bind_eq_some_iff.mp H
  obtain ⟨⟨t225, t228⟩, A60, H⟩ := H
  replace H : ((spec_MapValid.f k t225 t228).bind fun t231 => (some t231)) = some r := H
  have A6 := A0_ A60
  clear A60
  replace H := Option.bind_eq_some_iff.mp H
  obtain ⟨t231, A70, H⟩ := H
  replace H : (some t231) = some r := H
  have A7 := A0_ A70
  clear A70
  obtain rfl := sI H
  go_enter Try.func34, Try.ntmps34
  go_wp2_with (first | ((with_reducible refine gD (N := 3) rfl ?_); refine box_event ?hg (N := 3) ?hd (cs := #[.slice A0_0 l0_0.length c0_0, .slice A0_1 l0_1.length c0_1]) (t := 29) ?hr ?_; (case hd => rfl); (case hg => rfl); (case hr => first | (go_simp; done) | (go_simp; rfl)); intro gb223 hg w8 hbox hb; have n0_ := A0_ (bT (by repeat (first | (with_reducible first | exact HB.out | apply bA | apply bN | apply bD) | exact HB.out)) hb); have n1_ := A0_ (hbox); have n2_ := A0_ ((by rw [hg]; exact (bZ (by repeat (first | (with_reducible first | exact HB.out | apply bA | apply bN | apply bD) | exact HB.out))) : w.heap.size ≤ gb223)); have n3_ := A0_ ((by rw [hg]; exact (bZ (by repeat (first | (with_reducible first | exact HB.out | apply bA | apply bN | apply bD) | exact HB.out))) : w.heap.size ≤ gb223)); clear HB; have HB := n0_; have BK223 := n1_; have GW223 := n2_; have GE223 := n3_; clear n0_ n1_ n2_ n3_; clear hb hbox hg; have hcz9_0 : w8.cell? ⟨gb223, 0, none⟩ = some (.slice A0_0 l0_0.length c0_0) := (kC BK223.out 0).trans rfl; have hcz9_1 : w8.cell? ⟨gb223, 1, none⟩ = some (.slice A0_1 l0_1.length c0_1) := (kC BK223.out 1).trans rfl; have hfz9_0 := kF BK223.out 0; have hfz9_1 := kF BK223.out 1) | ((with_reducible refine gC (f := 17) rfl ?_); refine goesL_ (some 10) rfl rfl Try.func17 (by kernel_rfl) rfl #[.agg #[.slice A0_0 l0_0.length c0_0, .slice A0_1 l0_1.length c0_1], .int .i64 a1, .slice A2 l2.length c2] rfl (by (try simp only [List.map_toArray, List.map_cons, List.map_nil]); first | done | rfl) ?_; (with_reducible refine (spec_VoltageValid.calls k _ _ l0_0 _ _ l0_1 a1 _ _ l2 true _ ?side1 ?side2 ?side3 ?side4 ?side5 ?side6 A4.out).mono ?_); (case side1 => repeat (first | exact (cB HR0_0.out HB.out) | (with_reducible refine cA ?_ _) | (with_reducible refine cN ?_ _) | (with_reducible refine cD ?_))); (case side2 => exact HC0_0.out); (case side3 => repeat (first | exact (cB HR0_1.out HB.out) | (with_reducible refine cA ?_ _) | (with_reducible refine cN ?_ _) | (with_reducible refine cD ?_))); (case side4 => exact HC0_1.out); (case side5 => repeat (first | exact (cB HR2.out HB.out) | (with_reducible refine cA ?_ _) | (with_reducible refine cN ?_ _) | (with_reducible refine cD ?_))); (case side6 => exact HC2.out); rintro e w10 ⟨rfl, hb⟩; refine ⟨_, rfl, ?_⟩; have n0_ := A0_ (kB (g := gb223) (o := .cells #[.slice A0_0 l0_0.length c0_0, .slice A0_1 l0_1.length c0_1] 29 (0, 0)) (by (with_reducible repeat (first | refine kN ?_ _ | refine kD ?_ | refine kA ?_ _)); exact BK223.out) hb); have n1_ := A0_ (bT (by repeat (first | (with_reducible first | exact HB.out | apply bA | apply bN | apply bD | refine bS ?_ GE223.out) | exact HB.out)) hb); clear BK223; clear HB; have BK223 := n0_; have HB := n1_; clear n0_ n1_; (try clear hb); (try clear hb2); (try clear hk); (try clear hi); have hcz11_0 : w10.cell? ⟨gb223, 0, none⟩ = some (.slice A0_0 l0_0.length c0_0) := (kC BK223.out 0).trans rfl; have hcz11_1 : w10.cell? ⟨gb223, 1, none⟩ = some (.slice A0_1 l0_1.length c0_1) := (kC BK223.out 1).trans rfl; have hfz11_0 := kF BK223.out 0; have hfz11_1 := kF BK223.out 1) | (go_at_call 63; (with_reducible refine (spec_l9Cover.calls k _ _ l0_0 _ _ l0_1 a1 _ _ l2 t225 t228 _ ?side1 ?side2 ?side3 ?side4 ?side5 ?side6 A6.out).mono ?_); (case side1 => repeat (first | exact (cB HR0_0.out HB.out) | (with_reducible refine cA ?_ _) | (with_reducible refine cN ?_ _) | (with_reducible refine cD ?_))); (case side2 => exact HC0_0.out); (case side3 => repeat (first | exact (cB HR0_1.out HB.out) | (with_reducible refine cA ?_ _) | (with_reducible refine cN ?_ _) | (with_reducible refine cD ?_))); (case side4 => exact HC0_1.out); (case side5 => repeat (first | exact (cB HR2.out HB.out) | (with_reducible refine cA ?_ _) | (with_reducible refine cN ?_ _) | (with_reducible refine cD ?_))); (case side6 => exact HC2.out); rintro e w12 ⟨v226, v229, rfl, ho0, ho1, hb⟩; have n0_ := A0_ (rL ho0 (bZ (by repeat (first | (with_reducible first | exact HB.out | apply bA | apply bN | apply bD | refine bS ?_ GE223.out) | exact HB.out)))); have n1_ := A0_ (rL ho1 (bZ (by repeat (first | (with_reducible first | exact HB.out | apply bA | apply bN | apply bD | refine bS ?_ GE223.out) | exact HB.out)))); have n2_ := A0_ (kB (g := gb223) (o := .cells #[.slice A0_0 l0_0.length c0_0, .slice A0_1 l0_1.length c0_1] 29 (0, 0)) (by (with_reducible repeat (first | refine kN ?_ _ | refine kD ?_ | refine kA ?_ _)); exact BK223.out) hb); have n3_ := A0_ (bT (by repeat (first | (with_reducible first | exact HB.out | apply bA | apply bN | apply bD | refine bS ?_ GE223.out) | exact HB.out)) hb); clear BK223; clear HB; have HO227 := n0_; have HO230 := n1_; have BK223 := n2_; have HB := n3_; clear n0_ n1_ n2_ n3_; (try clear hb); (try clear hb2); (try clear hk); (try clear hi); (try clear ho0); (try clear ho1); obtain ⟨Ao13, co13, eo13⟩ := rS HO227.out; subst eo13; obtain ⟨Ao14, co14, eo14⟩ := rS HO230.out; subst eo14) | (go_at_call 56; (with_reducible refine (spec_MapValid.calls k _ _ t225 _ _ t228 t231 _ ?side1 ?side2 ?side3 ?side4 A7.out).mono ?_); (case side1 => repeat (first | exact (rR HO227.out).2.2 | (with_reducible refine cA ?_ _) | (with_reducible refine cN ?_ _) | (with_reducible refine cD ?_))); (case side2 => exact (rR HO227.out).2.1); (case side3 => repeat (first | exact (rR HO230.out).2.2 | (with_reducible refine cA ?_ _) | (with_reducible refine cN ?_ _) | (with_reducible refine cD ?_))); (case side4 => exact (rR HO230.out).2.1); rintro e w15 ⟨rfl, hb⟩; have n0_ := A0_ (rB (by (with_reducible repeat (first | apply rA | apply rN | apply rD)); exact HO227.out) hb); have n1_ := A0_ (rB (by (with_reducible repeat (first | apply rA | apply rN | apply rD)); exact HO230.out) hb); have n2_ := A0_ (kB (g := gb223) (o := .cells #[.slice A0_0 l0_0.length c0_0, .slice A0_1 l0_1.length c0_1] 29 (0, 0)) (by (with_reducible repeat (first | refine kN ?_ _ | refine kD ?_ | refine kA ?_ _)); exact BK223.out) hb); have n3_ := A0_ (bT (by repeat (first | (with_reducible first | exact HB.out | apply bA | apply bN | apply bD | refine bS ?_ GE223.out) | exact HB.out)) hb); clear HO227; clear HO230; clear BK223; clear HB; have HO227 := n0_; have HO230 := n1_; have BK223 := n2_; have HB := n3_; clear n0_ n1_ n2_ n3_; (try clear hb); (try clear hb2); (try clear hk); (try clear hi)))
  go_ret
  exact ⟨by first | rfl | (simp [*] <;> rfl), by repeat (first | (with_reducible first | exact HB.out | apply bA | apply bN | apply bD | refine bS ?_ GE223.out) | exact HB.out)⟩
 ·replace c5 := Bool.eq_false_iff.mpr c5
  subst c5
  have H1 : (some false) = some r := by rw [if_neg (show ¬ (false = true) by decide)] at H; exact H
  clear H
  have H := H1
  clear H1
  obtain rfl := sI H
  go_enter Try.func34, Try.ntmps34
  go_wp2_with (first | ((with_reducible refine gD (N := 3) rfl ?_); refine box_event ?hg (N := 3) ?hd (cs := #[.slice A0_0 l0_0.length c0_0, .slice A0_1 l0_1.length c0_1]) (t := 29) ?hr ?_; (case hd => rfl); (case hg => rfl); (case hr => first | (go_simp; done) | (go_simp; rfl)); intro gb223 hg w16 hbox hb; have n0_ := A0_ (bT (by repeat (first | (with_reducible first | exact HB.out | apply bA | apply bN | apply bD) | exact HB.out)) hb); have n1_ := A0_ (hbox); have n2_ := A0_ ((by rw [hg]; exact (bZ (by repeat (first | (with_reducible first | exact HB.out | apply bA | apply bN | apply bD) | exact HB.out))) : w.heap.size ≤ gb223)); have n3_ := A0_ ((by rw [hg]; exact (bZ (by repeat (first | (with_reducible first | exact HB.out | apply bA | apply bN | apply bD) | exact HB.out))) : w.heap.size ≤ gb223)); clear HB; have HB := n0_; have BK223 := n1_; have GW223 := n2_; have GE223 := n3_; clear n0_ n1_ n2_ n3_; clear hb hbox hg; have hcz17_0 : w16.cell? ⟨gb223, 0, none⟩ = some (.slice A0_0 l0_0.length c0_0) := (kC BK223.out 0).trans rfl; have hcz17_1 : w16.cell? ⟨gb223, 1, none⟩ = some (.slice A0_1 l0_1.length c0_1) := (kC BK223.out 1).trans rfl; have hfz17_0 := kF BK223.out 0; have hfz17_1 := kF BK223.out 1) | ((with_reducible refine gC (f := 17) rfl ?_); refine goesL_ (some 10) rfl rfl Try.func17 (by kernel_rfl) rfl #[.agg #[.slice A0_0 l0_0.length c0_0, .slice A0_1 l0_1.length c0_1], .int .i64 a1, .slice A2 l2.length c2] rfl (by (try simp only [List.map_toArray, List.map_cons, List.map_nil]); first | done | rfl) ?_; (with_reducible refine (spec_VoltageValid.calls k _ _ l0_0 _ _ l0_1 a1 _ _ l2 false _ ?side1 ?side2 ?side3 ?side4 ?side5 ?side6 A4.out).mono ?_); (case side1 => repeat (first | exact (cB HR0_0.out HB.out) | (with_reducible refine cA ?_ _) | (with_reducible refine cN ?_ _) | (with_reducible refine cD ?_))); (case side2 => exact HC0_0.out); (case side3 => repeat (first | exact (cB HR0_1.out HB.out) | (with_reducible refine cA ?_ _) | (with_reducible refine cN ?_ _) | (with_reducible refine cD ?_))); (case side4 => exact HC0_1.out); (case side5 => repeat (first | exact (cB HR2.out HB.out) | (with_reducible refine cA ?_ _) | (with_reducible refine cN ?_ _) | (with_reducible refine cD ?_))); (case side6 => exact HC2.out); rintro e w18 ⟨rfl, hb⟩; refine ⟨_, rfl, ?_⟩; have n0_ := A0_ (kB (g := gb223) (o := .cells #[.slice A0_0 l0_0.length c0_0, .slice A0_1 l0_1.length c0_1] 29 (0, 0)) (by (with_reducible repeat (first | refine kN ?_ _ | refine kD ?_ | refine kA ?_ _)); exact BK223.out) hb); have n1_ := A0_ (bT (by repeat (first | (with_reducible first | exact HB.out | apply bA | apply bN | apply bD | refine bS ?_ GE223.out) | exact HB.out)) hb); clear BK223; clear HB; have BK223 := n0_; have HB := n1_; clear n0_ n1_; (try clear hb); (try clear hb2); (try clear hk); (try clear hi)))
  go_ret
  exact ⟨by first | rfl | (simp [*] <;> rfl), by repeat (first | (with_reducible first | exact HB.out | apply bA | apply bN | apply bD | refine bS ?_ GE223.out) | exact HB.out)⟩

end Go.Proofs.Ytmcgkckdnelcdaa.PFnExactCoverGenus
