-- Made by a program of this session (wip/tools) out of the loaded program; not trusted: Lean checks it.
import Derived.Test.YtlckmmnpcljhoaaPFnShiftx0
import Derived.Test.YtlckmmnpcljhoaaPFnShiftx8
-- packed
namespace Go.Proofs.Ytlckmmnpcljhoaa.PFnShift
open Go.RowKit Go.Proofs.YtlckmmnpcljhoaaW.PrintWords Go.Proofs.YtlckmmnpcljhoaaW.PrintLast Go.Proofs.YtlckmmnpcljhoaaW.PrintMore
attribute [local go_sem] max2_int min2_int max_two min_two max_three min_three max_four min_four   -- for this text's walks alone
set_option linter.unusedVariables false
set_option linter.unusedSimpArgs false

/-! ### impl_edgesOf: function 43 -/
def impl_edgesOf.l0 : Nat → List Int → List Int → Int → Int → Option (List Int)
  | 0, _, _, _, _ => none
  | k + 1, x3, x8, x9, x10 => if x10 < x9 then (if 0 ≤ x10 then (if x10 < (x8.length : Int) then (if x10 < (rd x8 x10) then (if x3.length < 17592186044416 then (impl_edgesOf.l0 k (x3 ++ [x10]) x8 x9 (wrap64 (x10 + 1))) else (none)) else (impl_edgesOf.l0 k x3 x8 x9 (wrap64 (x10 + 1)))) else (none)) else (none)) else (some x3)
def impl_edgesOf.f (k : Nat) (l0_0 : List Int) (l0_1 : List Int) : Option (List Int) := impl_edgesOf.l0 k (([] : List Int)) l0_1 (l0_1.length : Int) 0
set_option maxHeartbeats 8000000 in
set_option maxRecDepth 100000 in
theorem impl_edgesOf.calls (k : Nat) (A0_0 : Option Addr) (c0_0 : Nat) (l0_0 : List Int) (A0_1 : Option Addr) (c0_1 : Nat) (l0_1 : List Int) (r : List Int) (w : World) (hr0_0 : Kd.C (Kd.int .i64) w A0_0 l0_0.length l0_0) (hc0_0 : l0_0.length ≤ c0_0) (hr0_1 : Kd.C (Kd.int .i64) w A0_1 l0_1.length l0_1) (hc0_1 : l0_1.length ≤ c0_1) (h : impl_edgesOf.f k l0_0 l0_1 = some r) :
    Calls Try.prog 43 #[.agg #[.slice A0_0 l0_0.length c0_0, .slice A0_1 l0_1.length c0_1]] w fun e w' => ∃ v0_ : Value, e = .returned (v0_) ∧ Kd.R (Kd.int .i64) 3 w' w.heap.size (fun _ => True) v0_ r ∧ Below w.heap.size w w' := by
 have hu25 := Try.underlying25; have HR0_0 := A0_ hr0_0; have HC0_0 := A0_ hc0_0; clear hr0_0 hc0_0; have HR0_1 := A0_ hr0_1; have HC0_1 := A0_ hc0_1; clear hr0_1 hc0_1
 have HB := A0_ (Below.refl w.heap.size w)
 have H : (impl_edgesOf.l0 k (([] : List Int)) l0_1 (l0_1.length : Int) 0) = some r := h
 clear h
 obtain ⟨y331, hy331⟩ : ∃ y_ : List Int, y_ = (([] : List Int)) := ⟨_, rfl⟩
 replace H : (impl_edgesOf.l0 k y331 l0_1 (l0_1.length : Int) 0) = some r := by first | (rw [hy331]; with_reducible exact H) | (have H2_ := (Option.bind_some _ _).symm.trans H; rw [hy331]; with_reducible exact H2_) | (have H2_ := (Option.bind_some _ _).symm.trans H; with_reducible exact H2_) | with_reducible exact H | (rw [hy331]; exact H) | exact H
 have Ny331 := A0_ hy331; clear hy331; have H' := A0_ H; clear H
 go_enter Try.func43, Try.ntmps43
 go_wp2_with (first | ((with_reducible refine gD (N := 1) rfl ?_); refine box_event ?hg (N := 1) ?hd (cs := #[.slice A0_0 l0_0.length c0_0, .slice A0_1 l0_1.length c0_1]) (t := 25) ?hr ?_; (case hd => rfl); (case hg => rfl); (case hr => first | (go_simp; done) | (go_simp; rfl)); intro gb330 hg w2 hbox hb; have BK330 := A0_ (hbox); have GW330 := zG hg HB; have GE330 := zG hg HB; replace HB := zB HB hb; clear hb hbox hg) | ((with_reducible refine gD (N := 6) rfl ?_); refine Kd.R_lit (Kd.int .i64) _ 3 ?hg (N := 6) ?hd (xs := ([] : List Int)) (inner := []) (ok := fun _ => True) (okp := fun _ => True) ?hr ?hp (fun _ hk => hk) trivial (Below.refl _ _) (Nat.le_refl _) (by simp) ?_; (case hd => rfl); (case hg => rfl); (case hr => first | (go_simp; done) | (go_simp; rfl)); (case hp => exact (Reps.none _ _)); intro v332 w3 ho4 hb hg_ hnew_; clear hg_ hnew_; (first | rw [← Ny331.out] at ho4 | (simp only [Int.reduceToNat] at ho4; rw [← Ny331.out] at ho4)); have HO333 := A0_ (rL ho4 (bZ (zB_ HB))); replace BK330 := zK BK330 hb; replace HB := zB HB hb; clear hb ho4; have hcz5_0 : w3.cell? ⟨gb330, 0, none⟩ = some (.slice A0_0 l0_0.length c0_0) := (kC BK330.out 0).trans rfl; have hcz5_1 : w3.cell? ⟨gb330, 1, none⟩ = some (.slice A0_1 l0_1.length c0_1) := (kC BK330.out 1).trans rfl; have hfz5_0 := kF BK330.out 0; have hfz5_1 := kF BK330.out 1))
 go_loopg [3, 10] k (fun kq v3 v10 w' => ∃ (x3_1 : List Int) (x10_1 : Int), v10 = .int .i64 x10_1 ∧ Aside0 (impl_edgesOf.l0 kq x3_1 l0_1 (l0_1.length : Int) x10_1 = some r) ∧ Aside0 (kq ≤ k) ∧ Aside0 (Kd.R (Kd.int .i64) 3 w' w.heap.size (fun _ => True) v3 x3_1) ∧ Aside0 (w'.heap[gb330]? = some (.cells #[(.slice A0_0 l0_0.length c0_0), (.slice A0_1 l0_1.length c0_1)] 25 (0, 0))) ∧ Aside0 (Below w.heap.size w w'))
 case atStart => exact ⟨(y331), (0), zt, H', ⟨Nat.le_refl _⟩, ⟨zR_ HO333⟩, ⟨zK_ BK330⟩, ⟨zB_ HB⟩⟩
 case round =>
  clear H'; (try clear p2); (try clear c4); (try clear hcz5_0); (try clear hcz5_1); (try clear hfz5_0); (try clear hfz5_1); obtain ⟨x3_1, x10_1, rfl, HA, HK1, HO_3, BK330, HB⟩ := hrel
  cases gk with
  | zero => exact absurd HA.out (by simp [impl_edgesOf.l0])
  | succ k1 =>
   have H := HA.out; clear HA; simp only [impl_edgesOf.l0] at H
   by_cases c6 : x10_1 < (l0_1.length : Int)
   ·rw [if_pos c6] at H
    have c6b0 : decide (x10_1 < (l0_1.length : Int)) = true := dT c6
    clear c6
    by_cases c7 : 0 ≤ x10_1
    ·rw [if_pos c7] at H
     have c7b0 : decide (0 ≤ x10_1) = true := dT c7
     clear c7
     by_cases c8 : x10_1 < (l0_1.length : Int)
     ·rw [if_pos c8] at H
      have c8b0 : decide (x10_1 < (l0_1.length : Int)) = true := dT c8
      clear c8
      by_cases c9 : x10_1 < (rd l0_1 x10_1)
      ·rw [if_pos c9] at H
       have c9b0 : decide (x10_1 < (rd l0_1 x10_1)) = true := dT c9
       clear c9
       by_cases c10 : x3_1.length < 17592186044416
       ·rw [if_pos c10] at H
        have LMc10 := A0_ c10; clear c10
        obtain ⟨y335, hy335⟩ : ∃ y_ : List Int, y_ = (x3_1 ++ [x10_1]) := ⟨_, rfl⟩
        replace H : (impl_edgesOf.l0 k1 y335 l0_1 (l0_1.length : Int) (wrap64 (x10_1 + 1))) = some r := by first | (rw [hy335]; with_reducible exact H) | (have H2_ := (Option.bind_some _ _).symm.trans H; rw [hy335]; with_reducible exact H2_) | (have H2_ := (Option.bind_some _ _).symm.trans H; with_reducible exact H2_) | with_reducible exact H | (rw [hy335]; exact H) | exact H
        have Ny335 := A0_ hy335; clear hy335; have H' := A0_ H; clear H
        have p334 : 0 ≤ (x10_1 : Int) := oD (by assumption)
        have q334 : x10_1 < (l0_1.length : Int) := oD (by assumption)
        obtain ⟨ad334, e334, hx334_0⟩ := tI HR0_1.out x10_1 p334 q334
        cases e334
        replace hx334_0 := (HB.out.cell (wL w _ hx334_0)).trans hx334_0
        replace p334 := eq_true p334; replace q334 := eq_true q334
        go_wp2_with (first | ((with_reducible refine gB (b := .append) (xs := #[.tmp 18, .tmp 20]) rfl ?_); at_builtin; refine Kd.R_append (Kd.int .i64) (w0 := w) w.heap.size rfl (.tmp 18) (.tmp 20) 23 3 (.int .i64 0) 8 rfl Try.underlying23 info3 rfl (by decide) (by omega) u3 x3_1 x10_1 [.int .i64 x10_1] (fun _ => True) (fun _ => False) rfl rfl ?aP (fun _ hk => hk.elim) ?aF ?aO ?aB ?aS ?aL ?_; (case aP => exact rfl); (case aB => exact (zB_ HB)); (case aF => exact (fun _ _ => trivial)); (case aO => exact (zR_ HO_3)); (case aS => exact (bZ (zB_ HB))); (case aL => have := LMc10.out; omega); intro v336 w11 ho hb hg hat; rw [← Ny335.out] at ho; replace BK330 := A0_ (blk_grown (g := gb330) (o := .cells #[.slice A0_0 l0_0.length c0_0, .slice (some ad334) l0_1.length c0_1] 25 (0, 0)) (zK_ BK330) hg (Kd.R_ne HO_3.out BK330.out (by decide))); replace HB := A0_ (hb); have HO337 := A0_ (ho); clear HO_3 ho hb hg hat))
        go_roundg k1
        case measure => have := HK1.out; omega
        case rel => exact ⟨(y335), (wrap64 (x10_1 + 1)), zt, H', ⟨by have := HK1.out; omega⟩, ⟨zR_ HO337⟩, ⟨zK_ BK330⟩, ⟨zB_ HB⟩⟩
       rw [if_neg c10] at H
       exact absurd H (by simp)
      rw [if_neg c9] at H
      have c9b0 : decide (x10_1 < (rd l0_1 x10_1)) = false := dF c9
      clear c9; have H' := A0_ H; clear H
      have p334 : 0 ≤ (x10_1 : Int) := oD (by assumption)
      have q334 : x10_1 < (l0_1.length : Int) := oD (by assumption)
      obtain ⟨ad334, e334, hx334_0⟩ := tI HR0_1.out x10_1 p334 q334
      cases e334
      replace hx334_0 := (HB.out.cell (wL w _ hx334_0)).trans hx334_0
      replace p334 := eq_true p334; replace q334 := eq_true q334
      go_wp2
      go_roundg k1
      case measure => have := HK1.out; omega
      case rel => exact ⟨(x3_1), (wrap64 (x10_1 + 1)), zt, H', ⟨by have := HK1.out; omega⟩, ⟨zR_ HO_3⟩, ⟨zK_ BK330⟩, ⟨zB_ HB⟩⟩
     rw [if_neg c8] at H
     exact absurd H (by simp)
    rw [if_neg c7] at H
    exact absurd H (by simp)
   rw [if_neg c6] at H
   have c6b0 : decide (x10_1 < (l0_1.length : Int)) = false := dF c6
   clear c6; obtain rfl := sI H
   go_wp2
   go_ret
   exact ⟨_, by first | rfl | (simp [*] <;> rfl), zR_ HO_3, zB_ HB⟩

/-! ### impl_edgeOf: function 42 -/
def impl_edgeOf.l0 : Nat → List Int → List Int → Int → Int → List Int → List Int → Option (List Int)
  | 0, _, _, _, _, _, _ => none
  | k + 1, x3, x11, x12, x13, x339000, x339001 => if x13 < x12 then (if 0 ≤ x13 then (if x13 < (x11.length : Int) then (if 0 ≤ (rd x11 x13) then (if (rd x11 x13) < (x339001.length : Int) then (if (rd x11 x13) < (x3.length : Int) then (if 0 ≤ (rd x339001 (rd x11 x13)) then (if (rd x339001 (rd x11 x13)) < (x3.length : Int) then (impl_edgeOf.l0 k ((x3.set ((rd x11 x13) : Int).toNat x13).set ((rd x339001 (rd x11 x13)) : Int).toNat x13) x11 x12 (wrap64 (x13 + 1)) x339000 x339001) else (none)) else (none)) else (none)) else (none)) else (none)) else (none)) else (none)) else (some x3)
def impl_edgeOf.f (k : Nat) (l0_0 : List Int) (l0_1 : List Int) : Option (List Int) := if 0 ≤ (l0_1.length : Int) then (if ((l0_1.length : Int) : Int).toNat ≤ 35184372088832 then ((impl_edgesOf.f k l0_0 l0_1).bind fun t342 => (impl_edgeOf.l0 k (List.replicate ((l0_1.length : Int) : Int).toNat 0) t342 (t342.length : Int) 0 l0_0 l0_1)) else (none)) else (none)
set_option maxHeartbeats 8000000 in
set_option maxRecDepth 100000 in
theorem impl_edgeOf.calls (k : Nat) (A0_0 : Option Addr) (c0_0 : Nat) (l0_0 : List Int) (A0_1 : Option Addr) (c0_1 : Nat) (l0_1 : List Int) (r : List Int) (w : World) (hr0_0 : Kd.C (Kd.int .i64) w A0_0 l0_0.length l0_0) (hc0_0 : l0_0.length ≤ c0_0) (hr0_1 : Kd.C (Kd.int .i64) w A0_1 l0_1.length l0_1) (hc0_1 : l0_1.length ≤ c0_1) (h : impl_edgeOf.f k l0_0 l0_1 = some r) :
    Calls Try.prog 42 #[.agg #[.slice A0_0 l0_0.length c0_0, .slice A0_1 l0_1.length c0_1]] w fun e w' => ∃ v0_ : Value, e = .returned (v0_) ∧ Kd.R (Kd.int .i64) 3 w' w.heap.size (fun _ => True) v0_ r ∧ Below w.heap.size w w' := by
 have hu25 := Try.underlying25; have HR0_0 := A0_ hr0_0; have HC0_0 := A0_ hc0_0; clear hr0_0 hc0_0; have HR0_1 := A0_ hr0_1; have HC0_1 := A0_ hc0_1; clear hr0_1 hc0_1
 have HB := A0_ (Below.refl w.heap.size w)
 have H : (if 0 ≤ (l0_1.length : Int) then (if ((l0_1.length : Int) : Int).toNat ≤ 35184372088832 then ((impl_edgesOf.f k l0_0 l0_1).bind fun t342 => (impl_edgeOf.l0 k (List.replicate ((l0_1.length : Int) : Int).toNat 0) t342 (t342.length : Int) 0 l0_0 l0_1)) else (none)) else (none)) = some r := h
 clear h
 by_cases c2 : 0 ≤ (l0_1.length : Int)
 ·rw [if_pos c2] at H
  have c2b0 := eq_true c2
  have c2b1 : decide (0 ≤ (l0_1.length : Int)) = true := dT c2
  clear c2
  by_cases c3 : ((l0_1.length : Int) : Int).toNat ≤ 35184372088832
  ·rw [if_pos c3] at H
   have c3b0 := eq_true c3
   have c3b1 : decide (((l0_1.length : Int) : Int).toNat ≤ 35184372088832) = true := dT c3
   clear c3
   obtain ⟨y339, hy339⟩ : ∃ y_ : List Int, y_ = (List.replicate ((l0_1.length : Int) : Int).toNat 0) := ⟨_, rfl⟩
   replace H : ((impl_edgesOf.f k l0_0 l0_1).bind fun t342 => (impl_edgeOf.l0 k y339 t342 (t342.length : Int) 0 l0_0 l0_1)) = some r := by first | (rw [hy339]; with_reducible exact H) | (have H2_ := (Option.bind_some _ _).symm.trans H; rw [hy339]; with_reducible exact H2_) | (have H2_ := (Option.bind_some _ _).symm.trans H; with_reducible exact H2_) | with_reducible exact H | (rw [hy339]; exact H) | exact H
   have Ny339 := A0_ hy339; clear hy339; obtain ⟨t342, A4, H⟩ := zbind H; have H' := A0_ H; clear H
   go_enter Try.func42, Try.ntmps42
   go_wp2_with (first | ((with_reducible refine gD (N := 1) rfl ?_); refine box_event ?hg (N := 1) ?hd (cs := #[.slice A0_0 l0_0.length c0_0, .slice A0_1 l0_1.length c0_1]) (t := 25) ?hr ?_; (case hd => rfl); (case hg => rfl); (case hr => first | (go_simp; done) | (go_simp; rfl)); intro gb338 hg w5 hbox hb; have BK338 := A0_ (hbox); have GW338 := zG hg HB; have GE338 := zG hg HB; replace HB := zB HB hb; clear hb hbox hg; have hcz6_0 : w5.cell? ⟨gb338, 0, none⟩ = some (.slice A0_0 l0_0.length c0_0) := (kC BK338.out 0).trans rfl; have hcz6_1 : w5.cell? ⟨gb338, 1, none⟩ = some (.slice A0_1 l0_1.length c0_1) := (kC BK338.out 1).trans rfl; have hfz6_0 := kF BK338.out 0; have hfz6_1 := kF BK338.out 1) | ((with_reducible refine gD (N := 9) rfl ?_); refine Kd.R_make (Kd.int .i64) _ 3 rfl (N := 9) rfl 23 _ _ rfl (l0_1.length : Int) rfl rfl Try.underlying23 (.int .i64 0) 8 info3 rfl (by decide) (by omega) 0 (ok := fun _ => True) (okp := fun _ => True) rfl (fun _ hk => hk) trivial (oD (by assumption)) (Nat.le_trans (Nat.mul_le_mul_right _ (oD (by assumption) : (l0_1.length : Int).toNat ≤ 35184372088832)) (by omega)) (Below.refl _ _) (Nat.le_refl _) ?_; intro v340 w7 ho8 hb hg_ hnew_; clear hg_ hnew_; (first | rw [← Ny339.out] at ho8 | (simp only [Int.reduceToNat] at ho8; rw [← Ny339.out] at ho8)); have HO341 := A0_ (rL ho8 (bZ (zB_ HB))); replace BK338 := zK BK338 hb; replace HB := zB HB hb; clear hb ho8; have hcz9_0 : w7.cell? ⟨gb338, 0, none⟩ = some (.slice A0_0 l0_0.length c0_0) := (kC BK338.out 0).trans rfl; have hcz9_1 : w7.cell? ⟨gb338, 1, none⟩ = some (.slice A0_1 l0_1.length c0_1) := (kC BK338.out 1).trans rfl; have hfz9_0 := kF BK338.out 0; have hfz9_1 := kF BK338.out 1) | ((with_reducible refine gC (f := 43) rfl ?_); refine goesL_ (some 11) rfl rfl Try.func43 (by kernel_rfl) rfl #[.agg #[.slice A0_0 l0_0.length c0_0, .slice A0_1 l0_1.length c0_1]] rfl (by (try simp only [List.map_toArray, List.map_cons, List.map_nil]); first | done | rfl) ?_; (with_reducible refine (impl_edgesOf.calls k _ _ l0_0 _ _ l0_1 t342 _ ?side1 ?side2 ?side3 ?side4 A4.out).mono ?_); (case side1 => repeat (first | exact (cB HR0_0.out HB.out) | (with_reducible refine cA ?_ _) | (with_reducible refine cN ?_ _) | (with_reducible refine cD ?_))); (case side2 => exact HC0_0.out); (case side3 => repeat (first | exact (cB HR0_1.out HB.out) | (with_reducible refine cA ?_ _) | (with_reducible refine cN ?_ _) | (with_reducible refine cD ?_))); (case side4 => exact HC0_1.out); rintro e w10 ⟨v343, rfl, ho0, hb⟩; refine ⟨_, rfl, ?_⟩; have HO344 := A0_ (rL (Kd.R_new' ho0 (rX (zR_ HO341))) (bZ (zB_ HB))); replace HO341 := A0_ (Kd.R_elder' (zR_ HO341) (Kd.R_base ho0) hb); replace BK338 := zK BK338 hb; replace HB := zB HB hb; (try clear hb); (try clear ho0); obtain ⟨Ao11, co11, eo11⟩ := rS HO344.out; subst eo11))
   go_loopg [13] k (fun kq v13 w' => ∃ (x3_1 : List Int) (x13_1 : Int), v13 = .int .i64 x13_1 ∧ Aside0 (impl_edgeOf.l0 kq x3_1 t342 (t342.length : Int) x13_1 l0_0 l0_1 = some r) ∧ Aside0 (kq ≤ k) ∧ Aside0 (Kd.R (Kd.int .i64) 3 w' w.heap.size (fun k_ => some k_ ≠ ((.slice Ao11 t342.length co11) : Value).ownBlock) v340 x3_1) ∧ Aside0 (Kd.R (Kd.int .i64) 3 w' w.heap.size (fun k_ => some k_ ≠ (v340 : Value).ownBlock) (.slice Ao11 t342.length co11) t342) ∧ Aside0 (w'.heap[gb338]? = some (.cells #[(.slice A0_0 l0_0.length c0_0), (.slice A0_1 l0_1.length c0_1)] 25 (0, 0))) ∧ Aside0 (Below w.heap.size w w'))
   case atStart => exact ⟨(y339), (0), zt, H', ⟨Nat.le_refl _⟩, ⟨zmR HO341 (fun _ hk => hk.2)⟩, ⟨zmR HO344 (fun _ hk => hk.2)⟩, ⟨zK_ BK338⟩, ⟨zB_ HB⟩⟩
   case round =>
    clear H'; (try clear c2); (try clear c2b0); (try clear c2b1); (try clear p2); (try clear c3); (try clear c3b0); (try clear c3b1); (try clear c4); (try clear hcz6_0); (try clear hcz6_1); (try clear hcz9_0); (try clear hcz9_1); (try clear hfz6_0); (try clear hfz6_1); (try clear hfz9_0); (try clear hfz9_1); obtain ⟨x3_1, x13_1, rfl, HA, HK1, HO_3, HO_11, BK338, HB⟩ := hrel
    cases gk with
    | zero => exact absurd HA.out (by simp [impl_edgeOf.l0])
    | succ k1 =>
     have H := HA.out; clear HA; simp only [impl_edgeOf.l0] at H
     by_cases c12 : x13_1 < (t342.length : Int)
     ·rw [if_pos c12] at H
      have c12b0 : decide (x13_1 < (t342.length : Int)) = true := dT c12
      clear c12
      by_cases c13 : 0 ≤ x13_1
      ·rw [if_pos c13] at H
       have c13b0 : decide (0 ≤ x13_1) = true := dT c13
       clear c13
       by_cases c14 : x13_1 < (t342.length : Int)
       ·rw [if_pos c14] at H
        have c14b0 : decide (x13_1 < (t342.length : Int)) = true := dT c14
        clear c14
        by_cases c15 : 0 ≤ (rd t342 x13_1)
        ·rw [if_pos c15] at H
         have c15b0 : decide (0 ≤ (rd t342 x13_1)) = true := dT c15
         clear c15
         by_cases c16 : (rd t342 x13_1) < (l0_1.length : Int)
         ·rw [if_pos c16] at H
          have c16b0 : decide ((rd t342 x13_1) < (l0_1.length : Int)) = true := dT c16
          clear c16
          by_cases c17 : (rd t342 x13_1) < (x3_1.length : Int)
          ·rw [if_pos c17] at H
           have c17b0 : decide ((rd t342 x13_1) < (x3_1.length : Int)) = true := dT c17
           clear c17
           obtain ⟨y347, hy347⟩ : ∃ y_ : List Int, y_ = (x3_1.set ((rd t342 x13_1) : Int).toNat x13_1) := ⟨_, rfl⟩
           replace H : (if 0 ≤ (rd l0_1 (rd t342 x13_1)) then (if (rd l0_1 (rd t342 x13_1)) < (x3_1.length : Int) then (impl_edgeOf.l0 k1 (y347.set ((rd l0_1 (rd t342 x13_1)) : Int).toNat x13_1) t342 (t342.length : Int) (wrap64 (x13_1 + 1)) l0_0 l0_1) else (none)) else (none)) = some r := by first | (rw [hy347]; with_reducible exact H) | (have H2_ := (Option.bind_some _ _).symm.trans H; rw [hy347]; with_reducible exact H2_) | (have H2_ := (Option.bind_some _ _).symm.trans H; with_reducible exact H2_) | with_reducible exact H | (rw [hy347]; exact H) | exact H
           have Ny347 := A0_ hy347; clear hy347
           by_cases c19 : 0 ≤ (rd l0_1 (rd t342 x13_1))
           ·rw [if_pos c19] at H
            have c19b0 : decide (0 ≤ (rd l0_1 (rd t342 x13_1))) = true := dT c19
            clear c19
            by_cases c20 : (rd l0_1 (rd t342 x13_1)) < (x3_1.length : Int)
            ·rw [if_pos c20] at H
             have c20b0 : decide ((rd l0_1 (rd t342 x13_1)) < (x3_1.length : Int)) = true := dT c20
             clear c20
             obtain ⟨y348, hy348⟩ : ∃ y_ : List Int, y_ = (y347.set ((rd l0_1 (rd t342 x13_1)) : Int).toNat x13_1) := ⟨_, rfl⟩
             replace H : (impl_edgeOf.l0 k1 y348 t342 (t342.length : Int) (wrap64 (x13_1 + 1)) l0_0 l0_1) = some r := by first | (rw [hy348]; with_reducible exact H) | (have H2_ := (Option.bind_some _ _).symm.trans H; rw [hy348]; with_reducible exact H2_) | (have H2_ := (Option.bind_some _ _).symm.trans H; with_reducible exact H2_) | with_reducible exact H | (rw [hy348]; exact H) | exact H
             have Ny348 := A0_ hy348; clear hy348; have H' := A0_ H; clear H
             have p345 : 0 ≤ (x13_1 : Int) := oD (by assumption)
             have q345 : x13_1 < (t342.length : Int) := oD (by assumption)
             obtain ⟨ad345, e345, hx345_0⟩ := tI (rR HO_11.out).2.2 x13_1 p345 q345
             cases e345
             replace p345 := eq_true p345; replace q345 := eq_true q345
             have hcz22_0 : wr.cell? ⟨gb338, 0, none⟩ = some (.slice A0_0 l0_0.length c0_0) := (kC BK338.out 0).trans rfl
             have hcz22_1 : wr.cell? ⟨gb338, 1, none⟩ = some (.slice A0_1 l0_1.length c0_1) := (kC BK338.out 1).trans rfl
             have hfz22_0 := kF BK338.out 0; have hfz22_1 := kF BK338.out 1
             have p346 : 0 ≤ ((rd t342 x13_1) : Int) := oD (by assumption)
             have q346 : (rd t342 x13_1) < (l0_1.length : Int) := oD (by assumption)
             obtain ⟨ad346, e346, hx346_0⟩ := tI HR0_1.out (rd t342 x13_1) p346 q346
             cases e346
             replace hx346_0 := (HB.out.cell (wL w _ hx346_0)).trans hx346_0
             replace p346 := eq_true p346; replace q346 := eq_true q346
             have p18 : 0 ≤ ((rd t342 x13_1) : Int) := oD (by assumption)
             have q18 : ((rd t342 x13_1) : Int) < ((x3_1.length : Int) : Int) := oD (by assumption)
             obtain ⟨go18, co18, eo18, gb18, gl18, cl18, HG18⟩ := Kd.R_form HO_3.out (by omega)
             (first | cases eo18 | (injection eo18 with ea_ en_ ec_; (first | subst ea_ | (injection ea_ with ea_; subst ea_)); subst ec_; clear en_))
             have GB18 := A0_ gb18; have GG18 := A0_ HG18; clear gb18 gl18 HG18
             obtain ⟨hx18_0, hf18_0⟩ := Kd.R_celln 0 HO_3.out ((rd t342 x13_1) : Int) p18 q18
             replace p18 := eq_true p18; replace q18 := eq_true q18
             have HP23 := Kd.R_putg HO_3.out ((rd t342 x13_1) : Int) x13_1
             go_wp2_with (first | ((with_reducible refine gS (t := 3) (p := 28) rfl ?_); refine store_event (t := 3) (p := 28) (v := ?vo_w24) (w1 := (wr.setCell ⟨go18, ((rd t342 x13_1) : Int).toNat, none⟩ (.int .i64 x13_1))) ?hg ?ho ?hn ?hr ?_; (case ho => rfl); (case hg => rfl); (case hn => rfl); (case hr => first | (go_simp; done) | (go_simp; rfl)); intro w24 hw; have hg : wr.grownBy w24 (some go18) := (by rw [hw]; exact HP23.2); have hp_ : Kd.R (Kd.int .i64) 3 w24 w.heap.size (fun k_ => some k_ ≠ (.slice (some ad345) t342.length co11 : Value).ownBlock) (.slice (some ⟨go18, 0, none⟩) x3_1.length co18) y347 := (by rw [hw, Ny347.out]; exact HP23.1); clear HP23; replace HO_11 := A0_ (Kd.R_after (v := (.slice (some ⟨go18, 0, none⟩) x3_1.length co18)) (v1 := (.slice (some ⟨go18, 0, none⟩) x3_1.length co18)) (ok := (fun _ => True)) (zmR HO_11 (fun _ hk => ⟨trivial, hk⟩)) hg (.inl rfl)); replace BK338 := A0_ (blk_grown (g := gb338) (o := .cells #[.slice A0_0 l0_0.length c0_0, .slice (some ad346) l0_1.length c0_1] 25 (0, 0)) (zK_ BK338) hg (Kd.R_ne HO_3.out BK338.out (by decide))); replace HO_3 := A0_ (hp_); replace HB := A0_ ((by rw [hw]; exact bS (HB.out) GB18.out : Below w.heap.size w w24)); clear hg hw hp_; have p21 : 0 ≤ ((rd l0_1 (rd t342 x13_1)) : Int) := oD (by assumption); have q21 : ((rd l0_1 (rd t342 x13_1)) : Int) < ((x3_1.length : Int) : Int) := oD (by assumption); obtain ⟨hx21_0, hf21_0⟩ := Kd.R_celln 0 HO_3.out ((rd l0_1 (rd t342 x13_1)) : Int) p21 q21; replace p21 := eq_true p21; replace q21 := eq_true q21; obtain ⟨hy25_, hz25_⟩ := Kd.R_celln 0 HO_3.out ((rd l0_1 (rd t342 x13_1)) : Int) (oD (by assumption)) (oD (by assumption)); have HP25 := Kd.R_putg HO_3.out ((rd l0_1 (rd t342 x13_1)) : Int) x13_1) | ((with_reducible refine gS (t := 3) (p := 29) rfl ?_); refine store_event (t := 3) (p := 29) (v := ?vo_w26) (w1 := (w24.setCell ⟨go18, ((rd l0_1 (rd t342 x13_1)) : Int).toNat, none⟩ (.int .i64 x13_1))) ?hg ?ho ?hn ?hr ?_; (case ho => rfl); (case hg => rfl); (case hn => rfl); (case hr => first | (go_simp; done) | (go_simp; rfl)); intro w26 hw; have hg : w24.grownBy w26 (some go18) := (by rw [hw]; exact HP25.2); have hp_ : Kd.R (Kd.int .i64) 3 w26 w.heap.size (fun k_ => some k_ ≠ (.slice (some ad345) t342.length co11 : Value).ownBlock) (.slice (some ⟨go18, 0, none⟩) x3_1.length co18) y348 := (by rw [hw, Ny348.out]; exact HP25.1); clear HP25; replace HO_11 := A0_ (Kd.R_after (v := (.slice (some ⟨go18, 0, none⟩) x3_1.length co18)) (v1 := (.slice (some ⟨go18, 0, none⟩) x3_1.length co18)) (ok := (fun _ => True)) (zR_ HO_11) hg (.inl rfl)); replace BK338 := A0_ (blk_grown (g := gb338) (o := .cells #[.slice A0_0 l0_0.length c0_0, .slice (some ad346) l0_1.length c0_1] 25 (0, 0)) (zK_ BK338) hg (Kd.R_ne HO_3.out BK338.out (by decide))); replace HO_3 := A0_ (hp_); replace HB := A0_ ((by rw [hw]; exact bS (HB.out) GB18.out : Below w.heap.size w w26)); clear hg hw hp_))
             go_roundg k1
             case measure => have := HK1.out; omega
             case rel => exact ⟨(y348), (wrap64 (x13_1 + 1)), zt, H', ⟨by have := HK1.out; omega⟩, ⟨zR_ HO_3⟩, ⟨zmR HO_11 (fun _ hk => hk.2)⟩, ⟨zK_ BK338⟩, ⟨zB_ HB⟩⟩
            rw [if_neg c20] at H
            exact absurd H (by simp)
           rw [if_neg c19] at H
           exact absurd H (by simp)
          rw [if_neg c17] at H
          exact absurd H (by simp)
         rw [if_neg c16] at H
         exact absurd H (by simp)
        rw [if_neg c15] at H
        exact absurd H (by simp)
       rw [if_neg c14] at H
       exact absurd H (by simp)
      rw [if_neg c13] at H
      exact absurd H (by simp)
     rw [if_neg c12] at H
     have c12b0 : decide (x13_1 < (t342.length : Int)) = false := dF c12
     clear c12; obtain rfl := sI H
     go_wp2
     go_ret
     exact ⟨_, by first | rfl | (simp [*] <;> rfl), zmR HO_3 (fun _ hk => trivial), zB_ HB⟩
  rw [if_neg c3] at H
  exact absurd H (by simp)
 rw [if_neg c2] at H
 exact absurd H (by simp)

/-! ### impl_along: function 36 -/
def impl_along.f (k : Nat) (l0_0 : List Int) (l0_1 : List Int) (l1 : List (List Int)) (a2 : Int) : Option (List Int) := (impl_edgeOf.f k l0_0 l0_1).bind fun t350 => (if 0 ≤ a2 then (if a2 < (t350.length : Int) then (if 0 ≤ (rd t350 a2) then (if (rd t350 a2) < (l1.length : Int) then (if a2 < (l0_1.length : Int) then (if a2 > (rd l0_1 a2) then ((impl_back.f k (rd_L2 l1 (rd t350 a2))).bind fun t356 => (some t356)) else (some (rd_L2 l1 (rd t350 a2)))) else (none)) else (none)) else (none)) else (none)) else (none))
set_option maxHeartbeats 8000000 in
set_option maxRecDepth 100000 in
theorem impl_along.calls (k : Nat) (A0_0 : Option Addr) (c0_0 : Nat) (l0_0 : List Int) (A0_1 : Option Addr) (c0_1 : Nat) (l0_1 : List Int) (P1_ : Nat → Prop) (A1 : Option Addr) (c1 : Nat) (l1 : List (List Int)) (a2 : Int) (r : List Int) (w : World) (hr0_0 : Kd.C (Kd.int .i64) w A0_0 l0_0.length l0_0) (hc0_0 : l0_0.length ≤ c0_0) (hr0_1 : Kd.C (Kd.int .i64) w A0_1 l0_1.length l0_1) (hc0_1 : l0_1.length ≤ c0_1) (hs1 : Kd.V (Kd.slice 3 (Kd.int .i64)) 23 w w.heap.size (fun k_ => P1_ k_) (.slice A1 l1.length c1) l1) (h : impl_along.f k l0_0 l0_1 l1 a2 = some r) :
    Calls Try.prog 36 #[.agg #[.slice A0_0 l0_0.length c0_0, .slice A0_1 l0_1.length c0_1], .slice A1 l1.length c1, .int .i64 a2] w fun e w' => ∃ v0_ : Value, e = .returned (v0_) ∧ Kd.V (Kd.int .i64) 3 w' w.heap.size (fun k_ => (P1_ k_ ∨ w.heap.size ≤ k_)) v0_ r ∧ Below w.heap.size w w' := by
 have hu25 := Try.underlying25; have HR0_0 := A0_ hr0_0; have HC0_0 := A0_ hc0_0; clear hr0_0 hc0_0; have HR0_1 := A0_ hr0_1; have HC0_1 := A0_ hc0_1; clear hr0_1 hc0_1
 have HO1 := A0_ (show Kd.V (Kd.slice 3 (Kd.int .i64)) 23 w w.heap.size (fun k_ => (P1_ k_ ∨ w.heap.size ≤ k_)) (.slice A1 l1.length c1) l1 from Kd.V_mono hs1 (fun k_ hk => .inl hk))
 have HB := A0_ (Below.refl w.heap.size w)
 have H : ((impl_edgeOf.f k l0_0 l0_1).bind fun t350 => (if 0 ≤ a2 then (if a2 < (t350.length : Int) then (if 0 ≤ (rd t350 a2) then (if (rd t350 a2) < (l1.length : Int) then (if a2 < (l0_1.length : Int) then (if a2 > (rd l0_1 a2) then ((impl_back.f k (rd_L2 l1 (rd t350 a2))).bind fun t356 => (some t356)) else (some (rd_L2 l1 (rd t350 a2)))) else (none)) else (none)) else (none)) else (none)) else (none))) = some r := h
 clear h; obtain ⟨t350, A4, H⟩ := zbind H
 by_cases c5 : 0 ≤ a2
 ·rw [if_pos c5] at H
  have c5b0 : decide (0 ≤ a2) = true := dT c5
  clear c5
  by_cases c6 : a2 < (t350.length : Int)
  ·rw [if_pos c6] at H
   have c6b0 : decide (a2 < (t350.length : Int)) = true := dT c6
   clear c6
   by_cases c7 : 0 ≤ (rd t350 a2)
   ·rw [if_pos c7] at H
    have c7b0 : decide (0 ≤ (rd t350 a2)) = true := dT c7
    clear c7
    by_cases c8 : (rd t350 a2) < (l1.length : Int)
    ·rw [if_pos c8] at H
     have c8b0 : decide ((rd t350 a2) < (l1.length : Int)) = true := dT c8
     clear c8
     by_cases c9 : a2 < (l0_1.length : Int)
     ·rw [if_pos c9] at H
      have c9b0 : decide (a2 < (l0_1.length : Int)) = true := dT c9
      clear c9
      by_cases c10 : a2 > (rd l0_1 a2)
      ·rw [if_pos c10] at H
       have c10b0 : decide ((rd l0_1 a2) < a2) = true := dT c10
       clear c10; obtain ⟨t356, A11, H⟩ := zbind H; obtain rfl := sI H
       go_enter Try.func36, Try.ntmps36
       go_wp2_with (first | ((with_reducible refine gD (N := 3) rfl ?_); refine box_event ?hg (N := 3) ?hd (cs := #[.slice A0_0 l0_0.length c0_0, .slice A0_1 l0_1.length c0_1]) (t := 25) ?hr ?_; (case hd => rfl); (case hg => rfl); (case hr => first | (go_simp; done) | (go_simp; rfl)); intro gb349 hg w12 hbox hb; replace HO1 := A0_ (Kd.V_below (Kd.V_elderB (by (with_reducible repeat (first | apply Kd.V_alloc | apply Kd.V_drewN | apply Kd.V_drew)); exact HO1.out) gb349 (Nat.le_of_eq hg.symm)) hb); have BK349 := A0_ (hbox); have GW349 := zG hg HB; have GE349 := zG hg HB; replace HB := zB HB hb; clear hb hbox hg; have hcz13_0 : w12.cell? ⟨gb349, 0, none⟩ = some (.slice A0_0 l0_0.length c0_0) := (kC BK349.out 0).trans rfl; have hcz13_1 : w12.cell? ⟨gb349, 1, none⟩ = some (.slice A0_1 l0_1.length c0_1) := (kC BK349.out 1).trans rfl; have hfz13_0 := kF BK349.out 0; have hfz13_1 := kF BK349.out 1) | ((with_reducible refine gC (f := 42) rfl ?_); refine goesL_ (some 10) rfl rfl Try.func42 (by kernel_rfl) rfl #[.agg #[.slice A0_0 l0_0.length c0_0, .slice A0_1 l0_1.length c0_1]] rfl (by (try simp only [List.map_toArray, List.map_cons, List.map_nil]); first | done | rfl) ?_; (with_reducible refine (impl_edgeOf.calls k _ _ l0_0 _ _ l0_1 t350 _ ?side1 ?side2 ?side3 ?side4 A4.out).mono ?_); (case side1 => repeat (first | exact (cB HR0_0.out HB.out) | (with_reducible refine cA ?_ _) | (with_reducible refine cN ?_ _) | (with_reducible refine cD ?_))); (case side2 => exact HC0_0.out); (case side3 => repeat (first | exact (cB HR0_1.out HB.out) | (with_reducible refine cA ?_ _) | (with_reducible refine cN ?_ _) | (with_reducible refine cD ?_))); (case side4 => exact HC0_1.out); rintro e w14 ⟨v351, rfl, ho0, hb⟩; refine ⟨_, rfl, ?_⟩; replace HO1 := A0_ (Kd.V_elder' (by (with_reducible repeat (first | apply Kd.V_alloc | apply Kd.V_drewN | apply Kd.V_drew)); exact HO1.out) (Kd.R_base ho0) hb); have HO352 := A0_ (rL (Kd.R_newM (M := fun k_ => (w.heap.size ≤ k_)) ho0 (bZ (zB_ HB)) (fun k_ h_ => h_)) (bZ (zB_ HB))); replace BK349 := zK BK349 hb; replace HB := zB HB hb; (try clear hb); (try clear ho0); obtain ⟨Ao15, co15, eo15⟩ := rS HO352.out; subst eo15; have p353 : 0 ≤ (a2 : Int) := oD (by assumption); have q353 : a2 < (t350.length : Int) := oD (by assumption); obtain ⟨ad353, e353, hx353_0⟩ := tI (rR HO352.out).2.2 a2 p353 q353; cases e353; replace p353 := eq_true p353; replace q353 := eq_true q353; have p354 : 0 ≤ ((rd t350 a2) : Int) := oD (by assumption); have q354 : (rd t350 a2) < (l1.length : Int) := oD (by assumption); obtain ⟨ad354, A354_0, c354_0, e354, hx354_0, hl354_0, hi354_0⟩ := at_L2 (Kd.V_reads' HO1.out).2.2 (rd t350 a2) p354 q354; cases e354; obtain ⟨ce354, hce354, hMe354, hcc354⟩ := Kd.V_get HO1.out [] (rd t350 a2) p354 (by first | exact q354 | exact oD (by assumption) | (have e_ := (Kd.V_reads' HO1.out).1; omega)); obtain ⟨ua354_0, uc354_0, rfl, ul354_0, ge354_0⟩ := Kd.FK_slice_open hMe354; have hv354_0 := hcc354 0 _ rfl; rw [Nat.add_zero, show ((Kd.slice 3 (Kd.int .i64))).sz = 1 from rfl, Nat.mul_one] at hv354_0; replace hv354_0 := sI (hv354_0.symm.trans hx354_0); injection hv354_0 with hva_ hvn_ hvc_; rw [hva_] at ge354_0; rw [hvc_] at ul354_0; have HL354_0 := A0_ (show Kd.V (Kd.int .i64) 3 _ w.heap.size _ _ (rd_L2 l1 (rd t350 a2)) from Kd.V_mk ul354_0 ge354_0); clear hva_ hvn_ hvc_ ge354_0 ul354_0 hcc354 hce354; have HR354_0 := A0_ hi354_0; have HC354_0 := A0_ hl354_0; clear hi354_0 hl354_0; replace p354 := eq_true p354; replace q354 := eq_true q354; have hcz16_0 : w14.cell? ⟨gb349, 0, none⟩ = some (.slice A0_0 l0_0.length c0_0) := (kC BK349.out 0).trans rfl; have hcz16_1 : w14.cell? ⟨gb349, 1, none⟩ = some (.slice A0_1 l0_1.length c0_1) := (kC BK349.out 1).trans rfl; have hfz16_0 := kF BK349.out 0; have hfz16_1 := kF BK349.out 1; have p355 : 0 ≤ (a2 : Int) := oD (by assumption); have q355 : a2 < (l0_1.length : Int) := oD (by assumption); obtain ⟨ad355, e355, hx355_0⟩ := tI HR0_1.out a2 p355 q355; cases e355; replace hx355_0 := (HB.out.cell (wL w _ hx355_0)).trans hx355_0; replace p355 := eq_true p355; replace q355 := eq_true q355) | ((with_reducible refine gC (f := 39) rfl ?_); refine goesL_ (some 24) rfl rfl Try.func39 (by kernel_rfl) rfl #[.slice A354_0 (rd_L2 l1 (rd t350 a2)).length c354_0] rfl (by (try simp only [List.map_toArray, List.map_cons, List.map_nil]); first | done | rfl) ?_; (with_reducible refine (impl_back.calls k _ _ (rd_L2 l1 (rd t350 a2)) t356 _ ?side1 ?side2 A11.out).mono ?_); (case side1 => repeat (first | exact (by repeat (first | (with_reducible exact HR354_0.out) | (with_reducible refine cA ?_ _) | (with_reducible refine cN ?_ _) | (with_reducible refine cD ?_) | exact HR354_0.out)) | (with_reducible refine cA ?_ _) | (with_reducible refine cN ?_ _) | (with_reducible refine cD ?_))); (case side2 => exact HC354_0.out); rintro e w17 ⟨v357, rfl, ho0, hb⟩; refine ⟨_, rfl, ?_⟩; replace HO1 := A0_ (Kd.V_elder' (by (with_reducible repeat (first | apply Kd.V_alloc | apply Kd.V_drewN | apply Kd.V_drew)); exact HO1.out) (Kd.R_base ho0) hb); replace HL354_0 := A0_ (Kd.V_elder' (by (with_reducible repeat (first | apply Kd.V_alloc | apply Kd.V_drewN | apply Kd.V_drew)); exact HL354_0.out) (Kd.R_base ho0) hb); have HO358 := A0_ (rL (Kd.R_new' (Kd.R_newM (M := fun k_ => (w.heap.size ≤ k_)) ho0 (bZ (zB_ HB)) (fun k_ h_ => h_)) (rX (zR_ HO352))) (bZ (zB_ HB))); replace HO352 := A0_ (Kd.R_elder' (zR_ HO352) (Kd.R_base ho0) hb); replace BK349 := zK BK349 hb; replace HR354_0 := A0_ (cB (by repeat (first | (with_reducible exact HR354_0.out) | (with_reducible refine cA ?_ _) | (with_reducible refine cN ?_ _) | (with_reducible refine cD ?_) | exact HR354_0.out)) hb); replace HB := zB HB hb; (try clear hb); (try clear ho0)))
       go_ret
       exact ⟨_, by first | rfl | (simp [*] <;> rfl), Kd.V_mono (Kd.R_V (zmR HO358 (fun _ hk => hk.1.1))) (fun k_ hk => by first | exact ⟨(.inr (hk.1)), hk.2⟩ | exact (.inr (hk))), zB_ HB⟩
      rw [if_neg c10] at H
      have c10b0 : decide ((rd l0_1 a2) < a2) = false := dF c10
      clear c10; obtain rfl := sI H
      go_enter Try.func36, Try.ntmps36
      go_wp2_with (first | ((with_reducible refine gD (N := 3) rfl ?_); refine box_event ?hg (N := 3) ?hd (cs := #[.slice A0_0 l0_0.length c0_0, .slice A0_1 l0_1.length c0_1]) (t := 25) ?hr ?_; (case hd => rfl); (case hg => rfl); (case hr => first | (go_simp; done) | (go_simp; rfl)); intro gb349 hg w18 hbox hb; replace HO1 := A0_ (Kd.V_below (Kd.V_elderB (by (with_reducible repeat (first | apply Kd.V_alloc | apply Kd.V_drewN | apply Kd.V_drew)); exact HO1.out) gb349 (Nat.le_of_eq hg.symm)) hb); have BK349 := A0_ (hbox); have GW349 := zG hg HB; have GE349 := zG hg HB; replace HB := zB HB hb; clear hb hbox hg; have hcz19_0 : w18.cell? ⟨gb349, 0, none⟩ = some (.slice A0_0 l0_0.length c0_0) := (kC BK349.out 0).trans rfl; have hcz19_1 : w18.cell? ⟨gb349, 1, none⟩ = some (.slice A0_1 l0_1.length c0_1) := (kC BK349.out 1).trans rfl; have hfz19_0 := kF BK349.out 0; have hfz19_1 := kF BK349.out 1) | ((with_reducible refine gC (f := 42) rfl ?_); refine goesL_ (some 10) rfl rfl Try.func42 (by kernel_rfl) rfl #[.agg #[.slice A0_0 l0_0.length c0_0, .slice A0_1 l0_1.length c0_1]] rfl (by (try simp only [List.map_toArray, List.map_cons, List.map_nil]); first | done | rfl) ?_; (with_reducible refine (impl_edgeOf.calls k _ _ l0_0 _ _ l0_1 t350 _ ?side1 ?side2 ?side3 ?side4 A4.out).mono ?_); (case side1 => repeat (first | exact (cB HR0_0.out HB.out) | (with_reducible refine cA ?_ _) | (with_reducible refine cN ?_ _) | (with_reducible refine cD ?_))); (case side2 => exact HC0_0.out); (case side3 => repeat (first | exact (cB HR0_1.out HB.out) | (with_reducible refine cA ?_ _) | (with_reducible refine cN ?_ _) | (with_reducible refine cD ?_))); (case side4 => exact HC0_1.out); rintro e w20 ⟨v351, rfl, ho0, hb⟩; refine ⟨_, rfl, ?_⟩; replace HO1 := A0_ (Kd.V_elder' (by (with_reducible repeat (first | apply Kd.V_alloc | apply Kd.V_drewN | apply Kd.V_drew)); exact HO1.out) (Kd.R_base ho0) hb); have HO352 := A0_ (rL (Kd.R_newM (M := fun k_ => (w.heap.size ≤ k_)) ho0 (bZ (zB_ HB)) (fun k_ h_ => h_)) (bZ (zB_ HB))); replace BK349 := zK BK349 hb; replace HB := zB HB hb; (try clear hb); (try clear ho0); obtain ⟨Ao21, co21, eo21⟩ := rS HO352.out; subst eo21; have p353 : 0 ≤ (a2 : Int) := oD (by assumption); have q353 : a2 < (t350.length : Int) := oD (by assumption); obtain ⟨ad353, e353, hx353_0⟩ := tI (rR HO352.out).2.2 a2 p353 q353; cases e353; replace p353 := eq_true p353; replace q353 := eq_true q353; have p354 : 0 ≤ ((rd t350 a2) : Int) := oD (by assumption); have q354 : (rd t350 a2) < (l1.length : Int) := oD (by assumption); obtain ⟨ad354, A354_0, c354_0, e354, hx354_0, hl354_0, hi354_0⟩ := at_L2 (Kd.V_reads' HO1.out).2.2 (rd t350 a2) p354 q354; cases e354; obtain ⟨ce354, hce354, hMe354, hcc354⟩ := Kd.V_get HO1.out [] (rd t350 a2) p354 (by first | exact q354 | exact oD (by assumption) | (have e_ := (Kd.V_reads' HO1.out).1; omega)); obtain ⟨ua354_0, uc354_0, rfl, ul354_0, ge354_0⟩ := Kd.FK_slice_open hMe354; have hv354_0 := hcc354 0 _ rfl; rw [Nat.add_zero, show ((Kd.slice 3 (Kd.int .i64))).sz = 1 from rfl, Nat.mul_one] at hv354_0; replace hv354_0 := sI (hv354_0.symm.trans hx354_0); injection hv354_0 with hva_ hvn_ hvc_; rw [hva_] at ge354_0; rw [hvc_] at ul354_0; have HL354_0 := A0_ (show Kd.V (Kd.int .i64) 3 _ w.heap.size _ _ (rd_L2 l1 (rd t350 a2)) from Kd.V_mk ul354_0 ge354_0); clear hva_ hvn_ hvc_ ge354_0 ul354_0 hcc354 hce354; have HR354_0 := A0_ hi354_0; have HC354_0 := A0_ hl354_0; clear hi354_0 hl354_0; replace p354 := eq_true p354; replace q354 := eq_true q354; have hcz22_0 : w20.cell? ⟨gb349, 0, none⟩ = some (.slice A0_0 l0_0.length c0_0) := (kC BK349.out 0).trans rfl; have hcz22_1 : w20.cell? ⟨gb349, 1, none⟩ = some (.slice A0_1 l0_1.length c0_1) := (kC BK349.out 1).trans rfl; have hfz22_0 := kF BK349.out 0; have hfz22_1 := kF BK349.out 1; have p355 : 0 ≤ (a2 : Int) := oD (by assumption); have q355 : a2 < (l0_1.length : Int) := oD (by assumption); obtain ⟨ad355, e355, hx355_0⟩ := tI HR0_1.out a2 p355 q355; cases e355; replace hx355_0 := (HB.out.cell (wL w _ hx355_0)).trans hx355_0; replace p355 := eq_true p355; replace q355 := eq_true q355))
      go_ret
      exact ⟨_, by first | rfl | (simp [*] <;> rfl), by (with_reducible repeat (first | apply Kd.V_alloc | apply Kd.V_drewN | apply Kd.V_drew)); exact Kd.V_mono HL354_0.out (fun _ hk => hk.1.1), zB_ HB⟩
     rw [if_neg c9] at H
     exact absurd H (by simp)
    rw [if_neg c8] at H
    exact absurd H (by simp)
   rw [if_neg c7] at H
   exact absurd H (by simp)
  rw [if_neg c6] at H
  exact absurd H (by simp)
 rw [if_neg c5] at H
 exact absurd H (by simp)

end Go.Proofs.Ytlckmmnpcljhoaa.PFnShift
