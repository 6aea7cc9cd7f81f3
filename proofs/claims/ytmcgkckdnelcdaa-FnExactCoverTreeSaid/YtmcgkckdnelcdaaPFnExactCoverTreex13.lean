-- Made by a program of this session (wip/tools) out of the loaded program; not trusted: Lean checks it.
import Derived.Test.YtmcgkckdnelcdaaPFnExactCoverTreex0
import Derived.Test.YtmcgkckdnelcdaaPFnExactCoverTreex10
import Derived.Test.YtmcgkckdnelcdaaPFnExactCoverTreex12
-- packed
namespace Go.Proofs.Ytmcgkckdnelcdaa.PFnExactCoverTree
open Go.RowKit Go.Proofs.YtmcgkckdnelcdaaW.PrintWords Go.Proofs.YtmcgkckdnelcdaaW.PrintLast Go.Proofs.YtmcgkckdnelcdaaW.PrintMore
attribute [local go_sem] max2_int min2_int max_two min_two max_three min_three max_four min_four   -- for this text's walks alone
set_option linter.unusedVariables false
set_option linter.unusedSimpArgs false

/-! ### impl_along: function 91 -/
def impl_along.f (k : Nat) (l0_0 : List Int) (l0_1 : List Int) (l1 : List (List Int)) (a2 : Int) : Option (List Int) := (impl_edgeOf.f k l0_0 l0_1).bind fun t541 => (if 0 ≤ a2 then (if a2 < (t541.length : Int) then (if 0 ≤ (rd t541 a2) then (if (rd t541 a2) < (l1.length : Int) then (if a2 < (l0_1.length : Int) then (if a2 > (rd l0_1 a2) then ((impl_back.f k (rd_L1 l1 (rd t541 a2))).bind fun t547 => (some t547)) else (some (rd_L1 l1 (rd t541 a2)))) else (none)) else (none)) else (none)) else (none)) else (none))
set_option maxHeartbeats 8000000 in
set_option maxRecDepth 100000 in
theorem impl_along.calls (k : Nat) (A0_0 : Option Addr) (c0_0 : Nat) (l0_0 : List Int) (A0_1 : Option Addr) (c0_1 : Nat) (l0_1 : List Int) (P1_ : Nat → Prop) (A1 : Option Addr) (c1 : Nat) (l1 : List (List Int)) (a2 : Int) (r : List Int) (w : World) (hr0_0 : Kd.C (Kd.int .i64) w A0_0 l0_0.length l0_0) (hc0_0 : l0_0.length ≤ c0_0) (hr0_1 : Kd.C (Kd.int .i64) w A0_1 l0_1.length l0_1) (hc0_1 : l0_1.length ≤ c0_1) (hs1 : Kd.V (Kd.slice 3 (Kd.int .i64)) 22 w w.heap.size (fun k_ => P1_ k_) (.slice A1 l1.length c1) l1) (h : impl_along.f k l0_0 l0_1 l1 a2 = some r) :
    Calls Try.prog 91 #[.agg #[.slice A0_0 l0_0.length c0_0, .slice A0_1 l0_1.length c0_1], .slice A1 l1.length c1, .int .i64 a2] w fun e w' => ∃ v0_ : Value, e = .returned (v0_) ∧ Kd.V (Kd.int .i64) 3 w' w.heap.size (fun k_ => (P1_ k_ ∨ w.heap.size ≤ k_)) v0_ r ∧ Below w.heap.size w w' := by
 have hu29 := Try.underlying29; have HR0_0 := A0_ hr0_0; have HC0_0 := A0_ hc0_0; clear hr0_0 hc0_0; have HR0_1 := A0_ hr0_1; have HC0_1 := A0_ hc0_1; clear hr0_1 hc0_1
 have HO1 := A0_ (show Kd.V (Kd.slice 3 (Kd.int .i64)) 22 w w.heap.size (fun k_ => (P1_ k_ ∨ w.heap.size ≤ k_)) (.slice A1 l1.length c1) l1 from Kd.V_mono hs1 (fun k_ hk => .inl hk))
 have HB := A0_ (Below.refl w.heap.size w)
 have H : ((impl_edgeOf.f k l0_0 l0_1).bind fun t541 => (if 0 ≤ a2 then (if a2 < (t541.length : Int) then (if 0 ≤ (rd t541 a2) then (if (rd t541 a2) < (l1.length : Int) then (if a2 < (l0_1.length : Int) then (if a2 > (rd l0_1 a2) then ((impl_back.f k (rd_L1 l1 (rd t541 a2))).bind fun t547 => (some t547)) else (some (rd_L1 l1 (rd t541 a2)))) else (none)) else (none)) else (none)) else (none)) else (none))) = some r := h
 clear h; obtain ⟨t541, A4, H⟩ := zbind H
 by_cases c5 : 0 ≤ a2
 ·rw [if_pos c5] at H
  have c5b0 := dT c5; clear c5
  by_cases c6 : a2 < (t541.length : Int)
  ·rw [if_pos c6] at H
   have c6b0 := dT c6; clear c6
   by_cases c7 : 0 ≤ (rd t541 a2)
   ·rw [if_pos c7] at H
    have c7b0 := dT c7; clear c7
    by_cases c8 : (rd t541 a2) < (l1.length : Int)
    ·rw [if_pos c8] at H
     have c8b0 := dT c8; clear c8
     by_cases c9 : a2 < (l0_1.length : Int)
     ·rw [if_pos c9] at H
      have c9b0 := dT c9; clear c9
      by_cases c10 : a2 > (rd l0_1 a2)
      ·rw [if_pos c10] at H
       have c10b0 : decide ((rd l0_1 a2) < a2) = true := dT c10
       clear c10; obtain ⟨t547, A11, H⟩ := zbind H; obtain rfl := sI H
       go_enter Try.func91, Try.ntmps91
       go_wp2_with (first | ((with_reducible refine gD (N := 3) rfl ?_); refine zX (N := 3) (cs := #[.slice A0_0 l0_0.length c0_0, .slice A0_1 l0_1.length c0_1]) (t := 29) ?_; intro gb540 hg w12 hbox hb; replace HO1 := A0_ (Kd.V_below (Kd.V_elderB (by (with_reducible repeat apply Kd.V_alloc); exact HO1.out) gb540 (Nat.le_of_eq hg.symm)) hb); have BK540 := A0_ (hbox); have GW540 := zG hg HB; have GE540 := zG hg HB; replace HB := zB HB hb; clear hb hbox hg; have hcz13_0 := zc0 BK540; have hcz13_1 := zc1 BK540; have hfz13_0 := kF BK540.out 0; have hfz13_1 := kF BK540.out 1) | ((with_reducible refine gC (f := 107) rfl ?_); refine zJ (some 10) Try.func107 #[.agg #[.slice A0_0 l0_0.length c0_0, .slice A0_1 l0_1.length c0_1]] ?_; (with_reducible refine (impl_edgeOf.calls k _ _ l0_0 _ _ l0_1 t541 _ ?side1 ?side2 ?side3 ?side4 A4.out).mono ?_); (case side1 => exact zC HR0_0 HB); (case side2 => exact HC0_0.out); (case side3 => exact zC HR0_1 HB); (case side4 => exact HC0_1.out); rintro e w14 ⟨v542, rfl, ho0, hb⟩; refine ⟨_, rfl, ?_⟩; replace HO1 := A0_ (Kd.V_elder' (by (with_reducible repeat apply Kd.V_alloc); exact HO1.out) (Kd.R_base ho0) hb); have HO543 := A0_ (rL (Kd.R_newM (M := fun k_ => (w.heap.size ≤ k_)) ho0 (bZ (zB_ HB)) (fun k_ h_ => h_)) (bZ (zB_ HB))); replace BK540 := zK BK540 hb; replace HB := zB HB hb; (try clear hb); (try clear ho0); obtain ⟨Ao15, co15, eo15⟩ := rS HO543.out; subst eo15; have p544 : 0 ≤ (a2 : Int) := zd; have q544 : a2 < (t541.length : Int) := zd; obtain ⟨ad544, e544, hx544_0⟩ := tI (rR HO543.out).2.2 a2 p544 q544; cases e544; replace p544 := eq_true p544; replace q544 := eq_true q544; have p545 : 0 ≤ ((rd t541 a2) : Int) := zd; have q545 : (rd t541 a2) < (l1.length : Int) := zd; obtain ⟨ad545, A545_0, c545_0, e545, hx545_0, hl545_0, hi545_0⟩ := at_L1 (Kd.V_reads' HO1.out).2.2 (rd t541 a2) p545 q545; cases e545; obtain ⟨ce545, hce545, hMe545, hcc545⟩ := Kd.V_get HO1.out [] (rd t541 a2) p545 (by first | exact q545 | exact zd | (have e_ := (Kd.V_reads' HO1.out).1; omega)); obtain ⟨ua545_0, uc545_0, rfl, ul545_0, ge545_0⟩ := Kd.FK_slice_open hMe545; have hv545_0 := hcc545 0 _ rfl; rw [Nat.add_zero, show ((Kd.slice 3 (Kd.int .i64))).sz = 1 from rfl, Nat.mul_one] at hv545_0; replace hv545_0 := sI (hv545_0.symm.trans hx545_0); injection hv545_0 with hva_ hvn_ hvc_; rw [hva_] at ge545_0; rw [hvc_] at ul545_0; have HL545_0 := A0_ (show Kd.V (Kd.int .i64) 3 _ w.heap.size _ _ (rd_L1 l1 (rd t541 a2)) from Kd.V_mk ul545_0 ge545_0); clear hva_ hvn_ hvc_ ge545_0 ul545_0 hcc545 hce545; have HR545_0 := A0_ hi545_0; have HC545_0 := A0_ hl545_0; clear hi545_0 hl545_0; replace p545 := eq_true p545; replace q545 := eq_true q545; have hcz16_0 := zc0 BK540; have hcz16_1 := zc1 BK540; have hfz16_0 := kF BK540.out 0; have hfz16_1 := kF BK540.out 1; have p546 : 0 ≤ (a2 : Int) := zd; have q546 : a2 < (l0_1.length : Int) := zd; obtain ⟨ad546, e546, hx546_0⟩ := tI HR0_1.out a2 p546 q546; cases e546; try replace hx546_0 := (HB.out.cell (wL w _ hx546_0)).trans hx546_0; replace p546 := eq_true p546; replace q546 := eq_true q546) | ((with_reducible refine gC (f := 89) rfl ?_); refine zJ (some 24) Try.func89 #[.slice A545_0 (rd_L1 l1 (rd t541 a2)).length c545_0] ?_; (with_reducible refine (impl_back.calls k _ _ (rd_L1 l1 (rd t541 a2)) t547 _ ?side1 ?side2 A11.out).mono ?_); (case side1 => repeat (first | exact (by repeat (first | (with_reducible exact HR545_0.out) | (with_reducible refine cA ?_ _) | exact HR545_0.out)) | (with_reducible refine cA ?_ _))); (case side2 => exact HC545_0.out); rintro e w17 ⟨v548, rfl, ho0, hb⟩; refine ⟨_, rfl, ?_⟩; replace HO1 := A0_ (Kd.V_elder' (by (with_reducible repeat apply Kd.V_alloc); exact HO1.out) (Kd.R_base ho0) hb); replace HL545_0 := A0_ (Kd.V_elder' (by (with_reducible repeat apply Kd.V_alloc); exact HL545_0.out) (Kd.R_base ho0) hb); have HO549 := A0_ (rL (Kd.R_new' (Kd.R_newM (M := fun k_ => (w.heap.size ≤ k_)) ho0 (bZ (zB_ HB)) (fun k_ h_ => h_)) (rX (zR_ HO543))) (bZ (zB_ HB))); replace HO543 := A0_ (Kd.R_elder' (zR_ HO543) (Kd.R_base ho0) hb); replace BK540 := zK BK540 hb; replace HR545_0 := A0_ (cB (by repeat (first | (with_reducible exact HR545_0.out) | (with_reducible refine cA ?_ _) | exact HR545_0.out)) hb); replace HB := zB HB hb; (try clear hb); (try clear ho0)))
       go_ret
       exact ⟨_, by first | rfl | (simp [*] <;> rfl), Kd.V_mono (Kd.R_V (zmR HO549 (fun _ hk => hk.1.1))) (fun k_ hk => by first | exact ⟨(.inr (hk.1)), hk.2⟩ | exact (.inr (hk))), zB_ HB⟩
      rw [if_neg c10] at H
      have c10b0 : decide ((rd l0_1 a2) < a2) = false := dF c10
      clear c10; obtain rfl := sI H
      go_enter Try.func91, Try.ntmps91
      go_wp2_with (first | ((with_reducible refine gD (N := 3) rfl ?_); refine zX (N := 3) (cs := #[.slice A0_0 l0_0.length c0_0, .slice A0_1 l0_1.length c0_1]) (t := 29) ?_; intro gb540 hg w18 hbox hb; replace HO1 := A0_ (Kd.V_below (Kd.V_elderB (by (with_reducible repeat apply Kd.V_alloc); exact HO1.out) gb540 (Nat.le_of_eq hg.symm)) hb); have BK540 := A0_ (hbox); have GW540 := zG hg HB; have GE540 := zG hg HB; replace HB := zB HB hb; clear hb hbox hg; have hcz19_0 := zc0 BK540; have hcz19_1 := zc1 BK540; have hfz19_0 := kF BK540.out 0; have hfz19_1 := kF BK540.out 1) | ((with_reducible refine gC (f := 107) rfl ?_); refine zJ (some 10) Try.func107 #[.agg #[.slice A0_0 l0_0.length c0_0, .slice A0_1 l0_1.length c0_1]] ?_; (with_reducible refine (impl_edgeOf.calls k _ _ l0_0 _ _ l0_1 t541 _ ?side1 ?side2 ?side3 ?side4 A4.out).mono ?_); (case side1 => exact zC HR0_0 HB); (case side2 => exact HC0_0.out); (case side3 => exact zC HR0_1 HB); (case side4 => exact HC0_1.out); rintro e w20 ⟨v542, rfl, ho0, hb⟩; refine ⟨_, rfl, ?_⟩; replace HO1 := A0_ (Kd.V_elder' (by (with_reducible repeat apply Kd.V_alloc); exact HO1.out) (Kd.R_base ho0) hb); have HO543 := A0_ (rL (Kd.R_newM (M := fun k_ => (w.heap.size ≤ k_)) ho0 (bZ (zB_ HB)) (fun k_ h_ => h_)) (bZ (zB_ HB))); replace BK540 := zK BK540 hb; replace HB := zB HB hb; (try clear hb); (try clear ho0); obtain ⟨Ao21, co21, eo21⟩ := rS HO543.out; subst eo21; have p544 : 0 ≤ (a2 : Int) := zd; have q544 : a2 < (t541.length : Int) := zd; obtain ⟨ad544, e544, hx544_0⟩ := tI (rR HO543.out).2.2 a2 p544 q544; cases e544; replace p544 := eq_true p544; replace q544 := eq_true q544; have p545 : 0 ≤ ((rd t541 a2) : Int) := zd; have q545 : (rd t541 a2) < (l1.length : Int) := zd; obtain ⟨ad545, A545_0, c545_0, e545, hx545_0, hl545_0, hi545_0⟩ := at_L1 (Kd.V_reads' HO1.out).2.2 (rd t541 a2) p545 q545; cases e545; obtain ⟨ce545, hce545, hMe545, hcc545⟩ := Kd.V_get HO1.out [] (rd t541 a2) p545 (by first | exact q545 | exact zd | (have e_ := (Kd.V_reads' HO1.out).1; omega)); obtain ⟨ua545_0, uc545_0, rfl, ul545_0, ge545_0⟩ := Kd.FK_slice_open hMe545; have hv545_0 := hcc545 0 _ rfl; rw [Nat.add_zero, show ((Kd.slice 3 (Kd.int .i64))).sz = 1 from rfl, Nat.mul_one] at hv545_0; replace hv545_0 := sI (hv545_0.symm.trans hx545_0); injection hv545_0 with hva_ hvn_ hvc_; rw [hva_] at ge545_0; rw [hvc_] at ul545_0; have HL545_0 := A0_ (show Kd.V (Kd.int .i64) 3 _ w.heap.size _ _ (rd_L1 l1 (rd t541 a2)) from Kd.V_mk ul545_0 ge545_0); clear hva_ hvn_ hvc_ ge545_0 ul545_0 hcc545 hce545; have HR545_0 := A0_ hi545_0; have HC545_0 := A0_ hl545_0; clear hi545_0 hl545_0; replace p545 := eq_true p545; replace q545 := eq_true q545; have hcz22_0 := zc0 BK540; have hcz22_1 := zc1 BK540; have hfz22_0 := kF BK540.out 0; have hfz22_1 := kF BK540.out 1; have p546 : 0 ≤ (a2 : Int) := zd; have q546 : a2 < (l0_1.length : Int) := zd; obtain ⟨ad546, e546, hx546_0⟩ := tI HR0_1.out a2 p546 q546; cases e546; try replace hx546_0 := (HB.out.cell (wL w _ hx546_0)).trans hx546_0; replace p546 := eq_true p546; replace q546 := eq_true q546))
      go_ret
      exact ⟨_, by first | rfl | (simp [*] <;> rfl), by (with_reducible repeat (first | apply Kd.V_alloc | apply Kd.V_drewN | apply Kd.V_drew)); exact Kd.V_mono HL545_0.out (fun _ hk => hk.1.1), zB_ HB⟩
     rw [if_neg c9] at H
     exact absurd H (by simp)
    rw [if_neg c8] at H
    exact absurd H (by simp)
   rw [if_neg c7] at H
   exact absurd H (by simp)
  rw [if_neg c6] at H
  exact absurd H (by simp)
 rw [if_neg c5] at H
 exact absurd H (by simp)

/-! ### impl_copyLists: function 92 -/
def impl_copyLists.l0 : Nat → List (List Int) → List (List Int) → Int → Int → Option ((List (List Int)))
  | 0, _, _, _, _ => none
  | k + 1, x3, x7, x8, x9 => if x9 < x8 then (if 0 ≤ x9 then (if x9 < (x7.length : Int) then ((slices_Clone_int_int.f (rd_L1 x7 x9)).bind fun t554 => (if x3.length < 5864062014805 then (impl_copyLists.l0 k (x3 ++ [t554]) x7 x8 (wrap64 (x9 + 1))) else (none))) else (none)) else (none)) else (some x3)
def impl_copyLists.f (k : Nat) (l0 : List (List Int)) : Option ((List (List Int))) := impl_copyLists.l0 k (([] : List (List Int))) l0 (l0.length : Int) 0
set_option maxHeartbeats 8000000 in
set_option maxRecDepth 100000 in
theorem impl_copyLists.calls (k : Nat) (A0 : Option Addr) (c0 : Nat) (l0 : List (List Int)) (r : List (List Int)) (w : World) (hr0 : Kd.C (Kd.slice 3 (Kd.int .i64)) w A0 l0.length l0) (hc0 : l0.length ≤ c0) (h : impl_copyLists.f k l0 = some r) :
    Calls Try.prog 92 #[.slice A0 l0.length c0] w fun e w' => ∃ v0_ : Value, e = .returned (v0_) ∧ Kd.S (Kd.slice 3 (Kd.int .i64)) 22 w' w.heap.size (fun _ => True) v0_ r ∧ Below w.heap.size w w' := by
 have HR0 := A0_ hr0; have HC0 := A0_ hc0; clear hr0 hc0
 have HB := A0_ (Below.refl w.heap.size w)
 have H : (impl_copyLists.l0 k (([] : List (List Int))) l0 (l0.length : Int) 0) = some r := h
 clear h
 obtain ⟨y550, hy550⟩ : ∃ y_ : List (List Int), y_ = (([] : List (List Int))) := ⟨_, rfl⟩
 replace H : (impl_copyLists.l0 k y550 l0 (l0.length : Int) 0) = some r := zH hy550 H
 have Ny550 := A0_ hy550; clear hy550; have H' := A0_ H; clear H
 go_enter Try.func92, Try.ntmps92
 go_wp2_with (first | ((with_reducible refine gD (N := 6) rfl ?_); refine Kd.S_lit (Kd.slice 3 (Kd.int .i64)) _ 22 ?hg (N := 6) ?hd (xs := ([] : List (List Int))) (inner := []) (ok := fun _ => True) (okp := fun _ => True) ?hr ?hp (fun _ hk => hk) trivial (Below.refl _ _) (Nat.le_refl _) (by simp) ?_; (case hd => rfl); (case hg => rfl); (case hr => first | (go_simp; done) | (go_simp; rfl)); (case hp => exact (Reps.none _ _)); intro v551 w2 ho3 hb hg_ hnew_; clear hg_ hnew_; (first | rw [← Ny550.out] at ho3 | (simp only [Int.reduceToNat] at ho3; rw [← Ny550.out] at ho3)); have HO552 := A0_ (Kd.S_lower ho3 (bZ (zB_ HB))); replace HB := zB HB hb; clear hb ho3))
 go_loopg [3, 9] k (fun kq v3 v9 w' => ∃ (x3_1 : List (List Int)) (x9_1 : Int), v9 = .int .i64 x9_1 ∧ Aside0 (impl_copyLists.l0 kq x3_1 l0 (l0.length : Int) x9_1 = some r) ∧ Aside0 (kq ≤ k) ∧ Aside0 (Kd.S (Kd.slice 3 (Kd.int .i64)) 22 w' w.heap.size (fun _ => True) v3 x3_1) ∧ Aside0 (Below w.heap.size w w'))
 case atStart => exact ⟨(y550), (0), zt, H', ⟨Nat.le_refl _⟩, ⟨zS_ HO552⟩, ⟨zB_ HB⟩⟩
 case round =>
  clear H'; (try clear p2); obtain ⟨x3_1, x9_1, rfl, HA, HK1, HO_3, HB⟩ := hrel
  cases gk with
  | zero => exact absurd HA.out (by simp [impl_copyLists.l0])
  | succ k1 =>
   have H := HA.out; clear HA; simp only [impl_copyLists.l0] at H
   by_cases c4 : x9_1 < (l0.length : Int)
   ·rw [if_pos c4] at H
    have c4b0 := dT c4; clear c4
    by_cases c5 : 0 ≤ x9_1
    ·rw [if_pos c5] at H
     have c5b0 := dT c5; clear c5
     by_cases c6 : x9_1 < (l0.length : Int)
     ·rw [if_pos c6] at H
      have c6b0 := dT c6; clear c6; obtain ⟨t554, A7, H⟩ := zbind H
      by_cases c8 : x3_1.length < 5864062014805
      ·rw [if_pos c8] at H
       have LMc8 := A0_ c8; clear c8
       obtain ⟨y557, hy557⟩ : ∃ y_ : List (List Int), y_ = (x3_1 ++ [t554]) := ⟨_, rfl⟩
       replace H : (impl_copyLists.l0 k1 y557 l0 (l0.length : Int) (wrap64 (x9_1 + 1))) = some r := zH hy557 H
       have Ny557 := A0_ hy557; clear hy557; have H' := A0_ H; clear H
       have p553 : 0 ≤ (x9_1 : Int) := zd
       have q553 : x9_1 < (l0.length : Int) := zd
       obtain ⟨ad553, A553_0, c553_0, e553, hx553_0, hl553_0, hi553_0⟩ := at_L1 HR0.out x9_1 p553 q553
       cases e553
       try replace hx553_0 := (HB.out.cell (wL w _ hx553_0)).trans hx553_0
       have HR553_0 := A0_ hi553_0; have HC553_0 := A0_ hl553_0; clear hi553_0 hl553_0; replace p553 := eq_true p553; replace q553 := eq_true q553
       go_wp2_with (first | ((with_reducible refine gC (f := 102) rfl ?_); refine zJ (some 15) Try.func102 #[.slice A553_0 (rd_L1 l0 x9_1).length c553_0] ?_; (with_reducible refine (slices_Clone_int_int.calls _ _ (rd_L1 l0 x9_1) t554 _ ?side1 ?side2 A7.out).mono ?_); (case side1 => exact zC HR553_0 HB); (case side2 => exact HC553_0.out); rintro e w9 ⟨v555, rfl, ho0, hb⟩; refine ⟨_, rfl, ?_⟩; replace HO_3 := A0_ (Kd.S_elder' (zS_ HO_3) (Kd.R_base ho0) hb); have HO556 := A0_ (rL ho0 (bZ (zB_ HB))); replace HB := zB HB hb; (try clear hb); (try clear ho0); obtain ⟨Ao11, co11, eo11⟩ := rS HO556.out; subst eo11) | ((with_reducible refine gB (b := .append) (xs := #[.tmp 13, .tmp 16]) rfl ?_); at_builtin; refine Kd.S_append (Kd.slice 3 (Kd.int .i64)) (w0 := w) w.heap.size rfl (.tmp 13) (.tmp 16) 25 22 (.slice none 0 0) 24 rfl Try.underlying25 info22 rfl (by decide) (by omega) u3 x3_1 t554 [.slice Ao11 t554.length co11] (fun _ => True) (fun k_ => some k_ = (.slice Ao11 t554.length co11 : Value).ownBlock) rfl rfl ?aP (fun k_ hk_ => ((rM (ok' := fun k_ => ((fun _ => True)) k_ ∧ some k_ ≠ (u3 : Value).ownBlock) (Kd.R_apart' (HO556.out) (Kd.S_typed HO_3.out) (by decide)) (fun k_ hk => ⟨trivial, hk.2⟩))).1 k_ hk_.symm) ?aF ?aO ?aB ?aS ?aL ?_; (case aP => exact Kd.M_row (rM (Kd.R_tight rfl (rM (ok' := fun k_ => ((fun _ => True)) k_ ∧ some k_ ≠ (u3 : Value).ownBlock) (Kd.R_apart' (HO556.out) (Kd.S_typed HO_3.out) (by decide)) (fun k_ hk => ⟨trivial, hk.2⟩))) (fun _ h_ => h_))); (case aB => exact (zB_ HB)); (case aF => exact (fun _ _ => trivial)); (case aO => exact (zmS HO_3 (fun k_ hk => ⟨trivial, fun e_ => hk.2 e_⟩))); (case aS => exact (bZ (zB_ HB))); (case aL => have := LMc8.out; omega); intro v558 w10 ho hb hg hat; rw [← Ny557.out] at ho; replace HB := A0_ (hb); have HO559 := A0_ (ho); clear HO_3 HO556 ho hb hg hat))
       go_roundg k1
       case measure => have := HK1.out; omega
       case rel => exact ⟨(y557), (wrap64 (x9_1 + 1)), zt, H', ⟨by have := HK1.out; omega⟩, ⟨zS_ HO559⟩, ⟨zB_ HB⟩⟩
      rw [if_neg c8] at H
      exact absurd H (by simp)
     rw [if_neg c6] at H
     exact absurd H (by simp)
    rw [if_neg c5] at H
    exact absurd H (by simp)
   rw [if_neg c4] at H; have c4b0 := dF c4; clear c4; obtain rfl := sI H
   go_wp2
   go_ret
   exact ⟨_, by first | rfl | (simp [*] <;> rfl), zS_ HO_3, zB_ HB⟩

end Go.Proofs.Ytmcgkckdnelcdaa.PFnExactCoverTree
