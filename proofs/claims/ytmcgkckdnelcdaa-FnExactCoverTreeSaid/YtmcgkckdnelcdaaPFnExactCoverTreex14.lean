-- Made by a program of this session (wip/tools) out of the loaded program; not trusted: Lean checks it.
import Derived.Test.YtmcgkckdnelcdaaPFnExactCoverTreex0
import Derived.Test.YtmcgkckdnelcdaaPFnExactCoverTreex9
import Derived.Test.YtmcgkckdnelcdaaPFnExactCoverTreex10
import Derived.Test.YtmcgkckdnelcdaaPFnExactCoverTreex11
import Derived.Test.YtmcgkckdnelcdaaPFnExactCoverTreex12
import Derived.Test.YtmcgkckdnelcdaaPFnExactCoverTreex13
-- packed
namespace Go.Proofs.Ytmcgkckdnelcdaa.PFnExactCoverTree
open Go.RowKit Go.Proofs.YtmcgkckdnelcdaaW.PrintWords Go.Proofs.YtmcgkckdnelcdaaW.PrintLast Go.Proofs.YtmcgkckdnelcdaaW.PrintMore
attribute [local go_sem] max2_int min2_int max_two min_two max_three min_three max_four min_four   -- for this text's walks alone
set_option linter.unusedVariables false
set_option linter.unusedSimpArgs false

/-! ### impl_CoverTree: function 50 -/
mutual
def impl_CoverTree.l0 : Nat → List Int → List Bool → List (List Int) → List Int → Int → Int → List Int → List Int → Option ((List (List Int)) × Bool)
  | 0, _, _, _, _, _, _, _, _ => none
  | k + 1, x8, x9, x10, x34, x35, x36, x561000, x561001 => if x36 < x35 then (if 0 ≤ x36 then (if x36 < (x34.length : Int) then (if 0 ≤ (rd x34 x36) then (if (rd x34 x36) < (x561001.length : Int) then (if (rd x34 x36) < (x8.length : Int) then (if 0 ≤ (rd x8 (rd x34 x36)) then (if (rd x8 (rd x34 x36)) < (x9.length : Int) then (if (rdOf false x9 (rd x8 (rd x34 x36)) = true) then (if 0 ≤ (rd x561001 (rd x34 x36)) then (if (rd x561001 (rd x34 x36)) < (x8.length : Int) then (if 0 ≤ (rd x8 (rd x561001 (rd x34 x36))) then (if (rd x8 (rd x561001 (rd x34 x36))) < (x9.length : Int) then (impl_CoverTree.j1 k x8 x9 x10 (rd x34 x36) (rd x561001 (rd x34 x36)) x34 x35 x36 (rdOf false x9 (rd x8 (rd x561001 (rd x34 x36)))) x561000 x561001) else (none)) else (none)) else (none)) else (none)) else (impl_CoverTree.j1 k x8 x9 x10 (rd x34 x36) (rd x561001 (rd x34 x36)) x34 x35 x36 true x561000 x561001)) else (none)) else (none)) else (none)) else (none)) else (none)) else (none)) else (none)) else ((impl_copyLists.f k x10).bind fun t576 => (some (t576, true)))
def impl_CoverTree.j1 : Nat → List Int → List Bool → List (List Int) → Int → Int → List Int → Int → Int → Bool → List Int → List Int → Option ((List (List Int)) × Bool)
  | 0, _, _, _, _, _, _, _, _, _, _, _ => none
  | k + 1, x8, x9, x10, x12, x13, x34, x35, x36, x61, x561000, x561001 => if x61 = true then (impl_CoverTree.l0 k x8 x9 x10 x34 x35 (wrap64 (x36 + 1)) x561000 x561001) else (if 0 ≤ x13 then (if x13 < (x8.length : Int) then (if 0 ≤ (rd x8 x13) then (if (rd x8 x13) < (x9.length : Int) then ((impl_along.f k x561000 x561001 x10 x12).bind fun t587 => ((impl_back.f k t587).bind fun t591 => ((impl_conjAt.f k x561000 x561001 x10 (rd x8 x13) t591).bind fun t594 => (impl_CoverTree.l0 k x8 (x9.set ((rd x8 x13) : Int).toNat true) t594 x34 x35 (wrap64 (x36 + 1)) x561000 x561001)))) else (none)) else (none)) else (none)) else (none))
end
def impl_CoverTree.f (k : Nat) (l0_0 : List Int) (l0_1 : List Int) (a1 : Int) (l2 : List (List Int)) : Option ((List (List Int)) × Bool) := (impl_VoltageValid.f k l0_0 l0_1 a1 l2).bind fun t561 => (if t561 = true then ((impl_vertexOf.f k l0_0 l0_1).bind fun t562 => (if 0 ≤ (l0_0.length : Int) then (if ((l0_0.length : Int) : Int).toNat ≤ 281474976710656 then ((some (List.replicate ((l0_0.length : Int) : Int).toNat false : List Bool)).bind fun y565 => (if 0 < (t562.length : Int) then (if 0 ≤ (rd t562 0) then (if (rd t562 0) < (y565.length : Int) then ((impl_namesFrom.f k l0_0 l0_1 0).bind fun t570 => ((impl_back.f k t570).bind fun t573 => (impl_CoverTree.l0 k t562 (y565.set ((rd t562 0) : Int).toNat true) l2 t573 (t573.length : Int) 0 l0_0 l0_1))) else (none)) else (none)) else (none))) else (none)) else (none))) else (some (([] : List (List Int)), false)))
def impl_CoverTree.T14 : Bool × List (List Nat × List Nat) := (true, [([], []), ([], []), ([], []), ([], []), ([2, 3], [2, 3]), ([4], [4]), ([], []), ([6], [6]), ([0, 1, 5, 7, 7], [0, 1, 5, 7]), ([8, 8, 0, 1, 2, 3, 4, 5, 6, 7, 8], [1, 8])])
def impl_CoverTree.B14 : List Nat := [0, 0, 0, 0, 12, 28, 0, 64, 255, 511]
theorem impl_CoverTree.tab14 : rtab .any (opsOf Try.f50 14) = impl_CoverTree.T14 := by kernel_rfl
theorem impl_CoverTree.bits14 : waitsOk impl_CoverTree.T14.2 impl_CoverTree.B14 = true := by kernel_rfl
set_option maxHeartbeats 8000000 in
set_option maxRecDepth 100000 in
theorem impl_CoverTree.calls (k : Nat) (A0_0 : Option Addr) (c0_0 : Nat) (l0_0 : List Int) (A0_1 : Option Addr) (c0_1 : Nat) (l0_1 : List Int) (a1 : Int) (P2_ : Nat → Prop) (A2 : Option Addr) (c2 : Nat) (l2 : List (List Int)) (r1 : List (List Int)) (r2 : Bool) (w : World) (hr0_0 : Kd.C (Kd.int .i64) w A0_0 l0_0.length l0_0) (hc0_0 : l0_0.length ≤ c0_0) (hr0_1 : Kd.C (Kd.int .i64) w A0_1 l0_1.length l0_1) (hc0_1 : l0_1.length ≤ c0_1) (hs2 : Kd.V (Kd.slice 3 (Kd.int .i64)) 22 w w.heap.size (fun k_ => P2_ k_) (.slice A2 l2.length c2) l2) (h : impl_CoverTree.f k l0_0 l0_1 a1 l2 = some (r1, r2)) :
    Calls Try.prog 50 #[.agg #[.slice A0_0 l0_0.length c0_0, .slice A0_1 l0_1.length c0_1], .int .i64 a1, .slice A2 l2.length c2] w fun e w' => ∃ v0_ : Value, e = .returned (.tuple #[v0_, .bool r2]) ∧ Kd.S (Kd.slice 3 (Kd.int .i64)) 22 w' w.heap.size (fun k_ => (w.heap.size ≤ k_)) v0_ r1 ∧ Below w.heap.size w w' := by
 have hu29 := Try.underlying29; have HR0_0 := A0_ hr0_0; have HC0_0 := A0_ hc0_0; clear hr0_0 hc0_0; have HR0_1 := A0_ hr0_1; have HC0_1 := A0_ hc0_1; clear hr0_1 hc0_1
 have HO2 := A0_ (show Kd.V (Kd.slice 3 (Kd.int .i64)) 22 w w.heap.size (fun k_ => (P2_ k_ ∨ w.heap.size ≤ k_)) (.slice A2 l2.length c2) l2 from Kd.V_mono hs2 (fun k_ hk => .inl hk))
 have HB := A0_ (Below.refl w.heap.size w)
 have H : ((impl_VoltageValid.f k l0_0 l0_1 a1 l2).bind fun t561 => (if t561 = true then ((impl_vertexOf.f k l0_0 l0_1).bind fun t562 => (if 0 ≤ (l0_0.length : Int) then (if ((l0_0.length : Int) : Int).toNat ≤ 281474976710656 then ((some (List.replicate ((l0_0.length : Int) : Int).toNat false : List Bool)).bind fun y565 => (if 0 < (t562.length : Int) then (if 0 ≤ (rd t562 0) then (if (rd t562 0) < (y565.length : Int) then ((impl_namesFrom.f k l0_0 l0_1 0).bind fun t570 => ((impl_back.f k t570).bind fun t573 => (impl_CoverTree.l0 k t562 (y565.set ((rd t562 0) : Int).toNat true) l2 t573 (t573.length : Int) 0 l0_0 l0_1))) else (none)) else (none)) else (none))) else (none)) else (none))) else (some (([] : List (List Int)), false)))) = some (r1, r2) := h
 clear h; obtain ⟨t561, A4, H⟩ := zbind H
 by_cases c5 : t561 = true
 ·subst c5
  have H1 : ((impl_vertexOf.f k l0_0 l0_1).bind fun t562 => (if 0 ≤ (l0_0.length : Int) then (if ((l0_0.length : Int) : Int).toNat ≤ 281474976710656 then ((some (List.replicate ((l0_0.length : Int) : Int).toNat false : List Bool)).bind fun y565 => (if 0 < (t562.length : Int) then (if 0 ≤ (rd t562 0) then (if (rd t562 0) < (y565.length : Int) then ((impl_namesFrom.f k l0_0 l0_1 0).bind fun t570 => ((impl_back.f k t570).bind fun t573 => (impl_CoverTree.l0 k t562 (y565.set ((rd t562 0) : Int).toNat true) l2 t573 (t573.length : Int) 0 l0_0 l0_1))) else (none)) else (none)) else (none))) else (none)) else (none))) = some (r1, r2) := by rw [if_pos rfl] at H; exact H
  clear H; have H := H1; clear H1; obtain ⟨t562, A6, H⟩ := zbind H
  by_cases c7 : 0 ≤ (l0_0.length : Int)
  ·rw [if_pos c7] at H
   have c7b0 := eq_true c7; have c7b1 := dT c7; clear c7
   by_cases c8 : ((l0_0.length : Int) : Int).toNat ≤ 281474976710656
   ·rw [if_pos c8] at H
    have c8b0 := eq_true c8; have c8b1 := dT c8; clear c8
    obtain ⟨y565, hy565⟩ : ∃ y_ : List Bool, y_ = (List.replicate ((l0_0.length : Int) : Int).toNat false) := ⟨_, rfl⟩
    replace H : (if 0 < (t562.length : Int) then (if 0 ≤ (rd t562 0) then (if (rd t562 0) < (y565.length : Int) then ((impl_namesFrom.f k l0_0 l0_1 0).bind fun t570 => ((impl_back.f k t570).bind fun t573 => (impl_CoverTree.l0 k t562 (y565.set ((rd t562 0) : Int).toNat true) l2 t573 (t573.length : Int) 0 l0_0 l0_1))) else (none)) else (none)) else (none)) = some (r1, r2) := zH hy565 H
    have Ny565 := A0_ hy565; clear hy565
    by_cases c9 : 0 < (t562.length : Int)
    ·rw [if_pos c9] at H
     have c9b0 := dT c9
     have c9b1 : decide (0 < t562.length) = true := dT (by omega)
     clear c9
     by_cases c10 : 0 ≤ (rd t562 0)
     ·rw [if_pos c10] at H
      have c10b0 := dT c10; clear c10
      by_cases c11 : (rd t562 0) < (y565.length : Int)
      ·rw [if_pos c11] at H
       have c11b0 := dT c11; clear c11
       obtain ⟨y569, hy569⟩ : ∃ y_ : List Bool, y_ = (y565.set ((rd t562 0) : Int).toNat true) := ⟨_, rfl⟩
       replace H : ((impl_namesFrom.f k l0_0 l0_1 0).bind fun t570 => ((impl_back.f k t570).bind fun t573 => (impl_CoverTree.l0 k t562 y569 l2 t573 (t573.length : Int) 0 l0_0 l0_1))) = some (r1, r2) := zH hy569 H
       have Ny569 := A0_ hy569; clear hy569; obtain ⟨t570, A13, H⟩ := zbind H; obtain ⟨t573, A14, H⟩ := zbind H; have H' := A0_ H; clear H
       go_enter Try.func50, Try.ntmps50
       go_wp2_with (first | ((with_reducible refine gD (N := 3) rfl ?_); refine zX (N := 3) (cs := #[.slice A0_0 l0_0.length c0_0, .slice A0_1 l0_1.length c0_1]) (t := 29) ?_; intro gb560 hg w15 hbox hb; replace HO2 := A0_ (Kd.V_below (Kd.V_elderB (by (with_reducible repeat apply Kd.V_alloc); exact HO2.out) gb560 (Nat.le_of_eq hg.symm)) hb); have BK560 := A0_ (hbox); have GW560 := zG hg HB; have GE560 := zG hg HB; replace HB := zB HB hb; clear hb hbox hg; have hcz16_0 := zc0 BK560; have hcz16_1 := zc1 BK560; have hfz16_0 := kF BK560.out 0; have hfz16_1 := kF BK560.out 1) | ((with_reducible refine gC (f := 20) rfl ?_); refine zJ (some 18) Try.func20 #[.agg #[.slice A0_0 l0_0.length c0_0, .slice A0_1 l0_1.length c0_1], .int .i64 a1, .slice A2 l2.length c2] ?_; (with_reducible refine (impl_VoltageValid.calls k _ _ l0_0 _ _ l0_1 a1 _ _ l2 true _ ?side1 ?side2 ?side3 ?side4 ?side5 ?side6 A4.out).mono ?_); (case side1 => exact zC HR0_0 HB); (case side2 => exact HC0_0.out); (case side3 => exact zC HR0_1 HB); (case side4 => exact HC0_1.out); (case side5 => repeat (first | exact (Kd.V_reads' HO2.out).2.2 | (with_reducible refine cA ?_ _))); (case side6 => exact (Kd.V_reads' HO2.out).2.1); rintro e w17 ⟨rfl, hb⟩; refine ⟨_, rfl, ?_⟩; replace HO2 := A0_ (Kd.V_below (by (with_reducible repeat apply Kd.V_alloc); exact HO2.out) hb); replace BK560 := zK BK560 hb; replace HB := zB HB hb; (try clear hb); have hcz18_0 := zc0 BK560; have hcz18_1 := zc1 BK560; have hfz18_0 := kF BK560.out 0; have hfz18_1 := kF BK560.out 1) | ((with_reducible refine gC (f := 84) rfl ?_); refine zJ (some 21) Try.func84 #[.agg #[.slice A0_0 l0_0.length c0_0, .slice A0_1 l0_1.length c0_1]] ?_; (with_reducible refine (impl_vertexOf.calls k _ _ l0_0 _ _ l0_1 t562 _ ?side1 ?side2 ?side3 ?side4 A6.out).mono ?_); (case side1 => exact zC HR0_0 HB); (case side2 => exact HC0_0.out); (case side3 => exact zC HR0_1 HB); (case side4 => exact HC0_1.out); rintro e w19 ⟨v563, rfl, ho0, hb⟩; refine ⟨_, rfl, ?_⟩; replace HO2 := A0_ (Kd.V_elder' (by (with_reducible repeat apply Kd.V_alloc); exact HO2.out) (Kd.R_base ho0) hb); have HO564 := A0_ (rL (Kd.R_newM (M := fun k_ => (w.heap.size ≤ k_)) ho0 (bZ (zB_ HB)) (fun k_ h_ => h_)) (bZ (zB_ HB))); replace BK560 := zK BK560 hb; replace HB := zB HB hb; (try clear hb); (try clear ho0); have hcz20_0 := zc0 BK560; have hcz20_1 := zc1 BK560; have hfz20_0 := kF BK560.out 0; have hfz20_1 := kF BK560.out 1) | ((with_reducible refine gD (N := 25) rfl ?_); refine Kd.R_make Kd.bool _ 4 rfl (N := 25) rfl 75 _ _ rfl (l0_0.length : Int) rfl rfl Try.underlying75 (.bool false) 1 info4 rfl (by decide) (by omega) false (ok := fun _ => True) (okp := fun _ => True) rfl (fun _ hk => hk) trivial (zd) (Nat.le_trans (Nat.mul_le_mul_right _ (zd : (l0_0.length : Int).toNat ≤ 281474976710656)) (by omega)) (Below.refl _ _) (Nat.le_refl _) ?_; intro v566 w21 ho22 hb hg_ hnew_; clear hg_ hnew_; (first | rw [← Ny565.out] at ho22 | (simp only [Int.reduceToNat] at ho22; rw [← Ny565.out] at ho22)); replace HO2 := A0_ (Kd.V_elder' (by (with_reducible repeat apply Kd.V_alloc); exact HO2.out) (Kd.R_base ho22) hb); replace HO564 := zR HO564 hb; have HO567 := A0_ (rL (Kd.R_newM (M := fun k_ => (w.heap.size ≤ k_)) ho22 (bZ (zB_ HB)) (fun k_ h_ => h_)) (bZ (zB_ HB))); replace BK560 := zK BK560 hb; replace HB := zB HB hb; clear hb ho22; obtain ⟨Ao23, co23, eo23⟩ := rS HO564.out; subst eo23; have p568 : 0 ≤ (0 : Int) := (by omega); have q568 : 0 < (t562.length : Int) := zd; obtain ⟨ad568, e568, hx568_0⟩ := tI (rR HO564.out).2.2 0 p568 q568; cases e568; have qi568 : (0 < t562.length) = True := eq_true (by omega); (try rw [show ((0 : Int)).toNat = 0 from rfl] at hx568_0); (try rw [Addr.add_zero'] at hx568_0); replace p568 := eq_true p568; replace q568 := eq_true q568; have p12 : 0 ≤ ((rd t562 0) : Int) := zd; have q12 : ((rd t562 0) : Int) < ((y565.length : Int) : Int) := zd; obtain ⟨go12, co12, eo12, gb12, gl12, cl12, HG12⟩ := Kd.R_form HO567.out (by omega); (first | cases eo12 | (injection eo12 with ea_ en_ ec_; (first | subst ea_ | (injection ea_ with ea_; subst ea_)); subst ec_; clear en_)); have GB12 := A0_ gb12; have GG12 := A0_ HG12; clear gb12 gl12 HG12; obtain ⟨hx12_0, hf12_0⟩ := Kd.R_celln false HO567.out ((rd t562 0) : Int) p12 q12; replace p12 := eq_true p12; replace q12 := eq_true q12; have n_ := A0_ (rM (ok' := (fun k_ => (w.heap.size ≤ k_))) HO567.out (fun k_ hk => hk.1)); clear HO567; have HO567 := n_; clear n_; obtain ⟨hy24_, hz24_⟩ := Kd.R_celln false HO567.out ((rd t562 0) : Int) (zd) (zd); have HP24 := Kd.R_putg HO567.out ((rd t562 0) : Int) true) | ((with_reducible refine gS (t := 4) (p := 30) rfl ?_); refine store_event (t := 4) (p := 30) (v := ?vo_w25) (w1 := (w21.setCell ⟨go12, ((rd t562 0) : Int).toNat, none⟩ (.bool true))) ?hg ?ho ?hn ?hr ?_; (case ho => rfl); (case hg => rfl); (case hn => rfl); (case hr => first | (go_simp; done) | (go_simp; rfl)); intro w25 hw; have hg : w21.grownBy w25 (some go12) := (by rw [hw]; exact HP24.2); have hp_ : Kd.R Kd.bool 4 w25 w.heap.size (fun k_ => (w.heap.size ≤ k_)) (.slice (some ⟨go12, 0, none⟩) y565.length co12) y569 := (by rw [hw, Ny569.out]; exact HP24.1); clear HP24; replace HO2 := A0_ (Kd.V_afterv (v := (.slice (some ⟨go12, 0, none⟩) y565.length co12)) (v1 := (.slice (some ⟨go12, 0, none⟩) y565.length co12)) (ok := (fun k_ => (P2_ k_ ∨ w.heap.size ≤ k_) ∧ some k_ ≠ (.slice (some ad568) t562.length co23 : Value).ownBlock ∧ k_ ≠ gb560)) (by (with_reducible repeat apply Kd.V_alloc); exact Kd.V_mono HO2.out (fun _ hk => ⟨⟨hk.1.1.1, ⟨hk.1.2, hk.1.1.2⟩⟩, hk.2⟩)) hg (.inl rfl)); replace BK560 := A0_ (blk_grown (g := gb560) (o := .cells #[.slice A0_0 l0_0.length c0_0, .slice A0_1 l0_1.length c0_1] 29 (0, 0)) (zK_ BK560) hg (Kd.R_ne HO567.out BK560.out (by decide))); replace HO564 := A0_ (Kd.R_over' (v := (.slice (some ⟨go12, 0, none⟩) y565.length co12)) (zR_ HO564) (Kd.R_typed HO567.out) (by decide) hg); replace HO567 := A0_ (hp_); replace HB := A0_ ((by rw [hw]; exact bS (HB.out) GB12.out : Below w.heap.size w w25)); clear hg hw hp_; have hcz26_0 := zc0 BK560; have hcz26_1 := zc1 BK560; have hfz26_0 := kF BK560.out 0; have hfz26_1 := kF BK560.out 1) | ((with_reducible refine gC (f := 90) rfl ?_); refine zJ (some 33) Try.func90 #[.agg #[.slice A0_0 l0_0.length c0_0, .slice A0_1 l0_1.length c0_1], .int .i64 0] ?_; (with_reducible refine (impl_namesFrom.calls k _ _ l0_0 _ _ l0_1 0 t570 _ ?side1 ?side2 ?side3 ?side4 A13.out).mono ?_); (case side1 => exact zC HR0_0 HB); (case side2 => exact HC0_0.out); (case side3 => exact zC HR0_1 HB); (case side4 => exact HC0_1.out); rintro e w27 ⟨v571, rfl, ho0, hb⟩; refine ⟨_, rfl, ?_⟩; replace HO2 := A0_ (Kd.V_elder' (by (with_reducible repeat apply Kd.V_alloc); exact HO2.out) (Kd.R_base ho0) hb); replace HO567 := zR HO567 hb; have HO572 := A0_ (rL (Kd.R_new' (Kd.R_newM (M := fun k_ => (w.heap.size ≤ k_)) ho0 (bZ (zB_ HB)) (fun k_ h_ => h_)) (rX (zR_ HO564))) (bZ (zB_ HB))); replace HO564 := A0_ (Kd.R_elder' (zR_ HO564) (Kd.R_base ho0) hb); replace BK560 := zK BK560 hb; replace HB := zB HB hb; (try clear hb); (try clear ho0); obtain ⟨Ao28, co28, eo28⟩ := rS HO572.out; subst eo28) | ((with_reducible refine gC (f := 89) rfl ?_); refine zJ (some 34) Try.func89 #[.slice Ao28 t570.length co28] ?_; (with_reducible refine (impl_back.calls k _ _ t570 t573 _ ?side1 ?side2 A14.out).mono ?_); (case side1 => exact zD HO572); (case side2 => exact (rR HO572.out).2.1); rintro e w29 ⟨v574, rfl, ho0, hb⟩; refine ⟨_, rfl, ?_⟩; replace HO2 := A0_ (Kd.V_elder' (by (with_reducible repeat apply Kd.V_alloc); exact HO2.out) (Kd.R_base ho0) hb); replace HO567 := zR HO567 hb; have HO575 := A0_ (rL (Kd.R_new' (Kd.R_new' (Kd.R_newM (M := fun k_ => (w.heap.size ≤ k_)) ho0 (bZ (zB_ HB)) (fun k_ h_ => h_)) (rX (zR_ HO564))) (rX (zR_ HO572))) (bZ (zB_ HB))); replace HO564 := A0_ (Kd.R_elder' (zR_ HO564) (Kd.R_base ho0) hb); replace HO572 := A0_ (Kd.R_elder' (zR_ HO572) (Kd.R_base ho0) hb); replace BK560 := zK BK560 hb; replace HB := zB HB hb; (try clear hb); (try clear ho0); obtain ⟨Ao30, co30, eo30⟩ := rS HO575.out; subst eo30))
       go_loopg [10, 36] k (fun kq v10 v36 w' => ∃ (x9_1 : List Bool) (x10_1 : List (List Int)) (x36_1 : Int), v36 = .int .i64 x36_1 ∧ Aside0 (impl_CoverTree.l0 kq t562 x9_1 x10_1 t573 (t573.length : Int) x36_1 l0_0 l0_1 = some (r1, r2)) ∧ Aside0 (kq ≤ k) ∧ Aside0 (Kd.R (Kd.int .i64) 3 w' w.heap.size (fun k_ => (w.heap.size ≤ k_) ∧ some k_ ≠ ((.slice Ao30 t573.length co30) : Value).ownBlock) (.slice (some ad568) t562.length co23) t562) ∧ Aside0 (Kd.R Kd.bool 4 w' w.heap.size (fun k_ => (w.heap.size ≤ k_)) (.slice (some ⟨go12, 0, none⟩) y565.length co12) x9_1) ∧ Aside0 (Kd.V (Kd.slice 3 (Kd.int .i64)) 22 w' w.heap.size (fun k_ => (P2_ k_ ∨ w.heap.size ≤ k_) ∧ some k_ ≠ ((.slice (some ad568) t562.length co23) : Value).ownBlock ∧ some k_ ≠ ((.slice (some ⟨go12, 0, none⟩) y565.length co12) : Value).ownBlock ∧ some k_ ≠ ((.slice Ao30 t573.length co30) : Value).ownBlock ∧ k_ ≠ gb560) v10 x10_1) ∧ Aside0 (Kd.R (Kd.int .i64) 3 w' w.heap.size (fun k_ => (w.heap.size ≤ k_) ∧ some k_ ≠ ((.slice (some ad568) t562.length co23) : Value).ownBlock) (.slice Ao30 t573.length co30) t573) ∧ Aside0 (w'.heap[gb560]? = some (.cells #[(.slice A0_0 l0_0.length c0_0), (.slice A0_1 l0_1.length c0_1)] 29 (0, 0))) ∧ Aside0 (Below w.heap.size w w'))
       case atStart => exact ⟨(y569), (l2), (0), zt, H', ⟨Nat.le_refl _⟩, ⟨zmR HO564 (fun _ hk => ⟨hk.1.1.1, hk.2⟩)⟩, ⟨zR_ HO567⟩, ⟨by (with_reducible repeat (first | apply Kd.V_alloc | apply Kd.V_drewN | apply Kd.V_drew)); exact Kd.V_mono HO2.out (fun _ hk => ⟨hk.1.1.1.1, ⟨hk.1.1.1.2.1, ⟨hk.1.1.2, ⟨hk.2, hk.1.1.1.2.2⟩⟩⟩⟩)⟩, ⟨zmR HO575 (fun _ hk => ⟨hk.1.1.1, hk.1.2⟩)⟩, ⟨zK_ BK560⟩, ⟨zB_ HB⟩⟩
       case round =>
        clear H'; (try clear c1); (try clear p1); (try clear q1); (try clear hx1); (try clear c2); (try clear p2); (try clear c5); (try clear p5); (try clear q5); (try clear hx5); (try clear qi5); (try clear c7); (try clear c7b0); (try clear c7b1); (try clear c8); (try clear c8b0); (try clear c8b1); (try clear c9); (try clear c9b0); (try clear c9b1); (try clear c10); (try clear c10b0); (try clear c11); (try clear c11b0); (try clear p12); (try clear q12); (try clear hx12); (try clear hf12); (try clear c20); (try clear hcz16_0); (try clear hcz16_1); (try clear hcz18_0); (try clear hcz18_1); (try clear hcz20_0); (try clear hcz20_1); (try clear hcz26_0); (try clear hcz26_1); (try clear hfz16_0); (try clear hfz16_1); (try clear hfz18_0); (try clear hfz18_1); (try clear hfz20_0); (try clear hfz20_1); (try clear hfz26_0); (try clear hfz26_1); (try clear hx12_0); (try clear hx568_0); (try clear p12); (try clear p568); (try clear q12); (try clear q568); obtain ⟨x9_1, x10_1, x36_1, rfl, HA, HK1, HO_8, HO_9, HO_10, HO_34, BK560, HB⟩ := hrel; have hl9_1 := (rR HO_9.out).1; rw [hl9_1] at HO_9; (try simp only [hl9_1]); (try simp only [hl9_1] at BK560); (try simp only [hl9_1] at HO_8); (try simp only [hl9_1] at HO_10); (try simp only [hl9_1] at HO_34)
        cases gk with
        | zero => exact absurd HA.out (by simp [impl_CoverTree.l0])
        | succ k1 =>
         have H := HA.out; clear HA; simp only [impl_CoverTree.l0] at H
         by_cases c31 : x36_1 < (t573.length : Int)
         ·rw [if_pos c31] at H
          have c31b0 := dT c31; (try simp only [hl9_1] at c31b0); clear c31
          by_cases c32 : 0 ≤ x36_1
          ·rw [if_pos c32] at H
           have c32b0 := dT c32; clear c32
           by_cases c33 : x36_1 < (t573.length : Int)
           ·rw [if_pos c33] at H
            have c33b0 := dT c33; (try simp only [hl9_1] at c33b0); clear c33
            by_cases c34 : 0 ≤ (rd t573 x36_1)
            ·rw [if_pos c34] at H
             have c34b0 := dT c34; clear c34
             by_cases c35 : (rd t573 x36_1) < (l0_1.length : Int)
             ·rw [if_pos c35] at H
              have c35b0 := dT c35; (try simp only [hl9_1] at c35b0); clear c35; have HC36 := A0_ H; clear H
              have p579 : 0 ≤ (x36_1 : Int) := zd
              have q579 : x36_1 < (t573.length : Int) := zd
              obtain ⟨ad579, e579, hx579_0⟩ := tI (rR HO_34.out).2.2 x36_1 p579 q579
              cases e579
              replace p579 := eq_true p579; replace q579 := eq_true q579; have hcz37_0 := zc0 BK560; have hcz37_1 := zc1 BK560; have hfz37_0 := kF BK560.out 0; have hfz37_1 := kF BK560.out 1
              have p580 : 0 ≤ ((rd t573 x36_1) : Int) := zd
              have q580 : (rd t573 x36_1) < (l0_1.length : Int) := zd
              obtain ⟨ad580, e580, hx580_0⟩ := tI HR0_1.out (rd t573 x36_1) p580 q580
              cases e580
              try replace hx580_0 := (HB.out.cell (wL w _ hx580_0)).trans hx580_0
              replace p580 := eq_true p580; replace q580 := eq_true q580
              go_upto_region 11 with (fail)
              go_cut [61] (fun v61 wc => ∃ (kq : Nat) (x61_35 : Bool), v61 = .bool x61_35 ∧ Aside0 (impl_CoverTree.j1 kq t562 x9_1 x10_1 (rd t573 x36_1) (rd l0_1 (rd t573 x36_1)) t573 (t573.length : Int) x36_1 x61_35 l0_0 l0_1 = some (r1, r2)) ∧ Aside0 (kq ≤ k1) ∧ Aside0 (Kd.R (Kd.int .i64) 3 wc w.heap.size (fun k_ => (w.heap.size ≤ k_) ∧ some k_ ≠ ((.slice (some ad579) t573.length co30) : Value).ownBlock) (.slice (some ad568) t562.length co23) t562) ∧ Aside0 (Kd.R Kd.bool 4 wc w.heap.size (fun k_ => (w.heap.size ≤ k_)) (.slice (some ⟨go12, 0, none⟩) x9_1.length co12) x9_1) ∧ Aside0 (Kd.V (Kd.slice 3 (Kd.int .i64)) 22 wc w.heap.size (fun k_ => (P2_ k_ ∨ w.heap.size ≤ k_) ∧ some k_ ≠ ((.slice (some ad568) t562.length co23) : Value).ownBlock ∧ some k_ ≠ ((.slice (some ⟨go12, 0, none⟩) x9_1.length co12) : Value).ownBlock ∧ some k_ ≠ ((.slice (some ad579) t573.length co30) : Value).ownBlock ∧ k_ ≠ gb560) u10 x10_1) ∧ Aside0 (Kd.R (Kd.int .i64) 3 wc w.heap.size (fun k_ => (w.heap.size ≤ k_) ∧ some k_ ≠ ((.slice (some ad568) t562.length co23) : Value).ownBlock) (.slice (some ad579) t573.length co30) t573) ∧ Aside0 (wc.heap[gb560]? = some (.cells #[(.slice A0_0 l0_0.length c0_0), (.slice (some ad580) l0_1.length c0_1)] 29 (0, 0))) ∧ Aside0 (Below w.heap.size w wc))
              case first =>
               have H := HC36.out; clear HC36
               by_cases c38 : (rd t573 x36_1) < (t562.length : Int)
               ·rw [if_pos c38] at H
                have c38b0 := dT c38; (try simp only [hl9_1] at c38b0); clear c38
                (first | rw [c38b0] | (simp only [i64_w, i32_w]; rw [c38b0]) | skip)
                by_cases c39 : 0 ≤ (rd t562 (rd t573 x36_1))
                ·rw [if_pos c39] at H
                 have c39b0 := dT c39; clear c39
                 by_cases c40 : (rd t562 (rd t573 x36_1)) < (x9_1.length : Int)
                 ·rw [if_pos c40] at H
                  have c40b0 := dT c40; (try simp only [hl9_1] at c40b0); clear c40
                  obtain ⟨bq41, hbq41⟩ : ∃ b_ : Bool, b_ = (rdOf false x9_1 (rd t562 (rd t573 x36_1))) := ⟨_, rfl⟩
                  replace H : (if (bq41 = true) then (if 0 ≤ (rd l0_1 (rd t573 x36_1)) then (if (rd l0_1 (rd t573 x36_1)) < (t562.length : Int) then (if 0 ≤ (rd t562 (rd l0_1 (rd t573 x36_1))) then (if (rd t562 (rd l0_1 (rd t573 x36_1))) < (x9_1.length : Int) then (impl_CoverTree.j1 k1 t562 x9_1 x10_1 (rd t573 x36_1) (rd l0_1 (rd t573 x36_1)) t573 (t573.length : Int) x36_1 (rdOf false x9_1 (rd t562 (rd l0_1 (rd t573 x36_1)))) l0_0 l0_1) else (none)) else (none)) else (none)) else (none)) else (impl_CoverTree.j1 k1 t562 x9_1 x10_1 (rd t573 x36_1) (rd l0_1 (rd t573 x36_1)) t573 (t573.length : Int) x36_1 true l0_0 l0_1)) = some (r1, r2) := by rw [← hbq41] at H; exact H
                  have Nbq41 := A0_ hbq41; clear hbq41
                  by_cases c42 : (bq41 = true)
                  ·subst c42
                   have H1 : (if 0 ≤ (rd l0_1 (rd t573 x36_1)) then (if (rd l0_1 (rd t573 x36_1)) < (t562.length : Int) then (if 0 ≤ (rd t562 (rd l0_1 (rd t573 x36_1))) then (if (rd t562 (rd l0_1 (rd t573 x36_1))) < (x9_1.length : Int) then (impl_CoverTree.j1 k1 t562 x9_1 x10_1 (rd t573 x36_1) (rd l0_1 (rd t573 x36_1)) t573 (t573.length : Int) x36_1 (rdOf false x9_1 (rd t562 (rd l0_1 (rd t573 x36_1)))) l0_0 l0_1) else (none)) else (none)) else (none)) else (none)) = some (r1, r2) := by rw [if_pos rfl] at H; exact H
                   clear H; have H := H1; clear H1
                   by_cases c43 : 0 ≤ (rd l0_1 (rd t573 x36_1))
                   ·rw [if_pos c43] at H
                    have c43b0 := dT c43; clear c43
                    by_cases c44 : (rd l0_1 (rd t573 x36_1)) < (t562.length : Int)
                    ·rw [if_pos c44] at H
                     have c44b0 := dT c44; (try simp only [hl9_1] at c44b0); clear c44
                     by_cases c45 : 0 ≤ (rd t562 (rd l0_1 (rd t573 x36_1)))
                     ·rw [if_pos c45] at H
                      have c45b0 := dT c45; clear c45
                      by_cases c46 : (rd t562 (rd l0_1 (rd t573 x36_1))) < (x9_1.length : Int)
                      ·rw [if_pos c46] at H
                       have c46b0 := dT c46; (try simp only [hl9_1] at c46b0); clear c46; have H' := A0_ H; clear H
                       have p581 : 0 ≤ ((rd t573 x36_1) : Int) := zd
                       have q581 : (rd t573 x36_1) < (t562.length : Int) := zd
                       obtain ⟨ad581, e581, hx581_0⟩ := tI (rR HO_8.out).2.2 (rd t573 x36_1) p581 q581
                       obtain rfl : ad568 = ad581 := (by injection e581)
                       replace p581 := eq_true p581; replace q581 := eq_true q581
                       have p582 : 0 ≤ ((rd t562 (rd t573 x36_1)) : Int) := zd
                       have q582 : (rd t562 (rd t573 x36_1)) < (x9_1.length : Int) := zd
                       obtain ⟨ad582, e582, hx582_0⟩ := Kd.at_bool (rR HO_9.out).2.2 (rd t562 (rd t573 x36_1)) p582 q582
                       (try rw [← Nbq41.out] at hx582_0)
                       obtain rfl : (⟨go12, 0, none⟩ : Addr) = ad582 := (by injection e582)
                       (first | simp only [add_plain] at hx582_0 | simp only [add_at] at hx582_0 | simp only [Addr.add, Nat.zero_add] at hx582_0 | skip)
                       replace p582 := eq_true p582; replace q582 := eq_true q582
                       have p583 : 0 ≤ ((rd l0_1 (rd t573 x36_1)) : Int) := zd
                       have q583 : (rd l0_1 (rd t573 x36_1)) < (t562.length : Int) := zd
                       obtain ⟨ad583, e583, hx583_0⟩ := tI (rR HO_8.out).2.2 (rd l0_1 (rd t573 x36_1)) p583 q583
                       obtain rfl : ad568 = ad583 := (by injection e583)
                       replace p583 := eq_true p583; replace q583 := eq_true q583
                       have p584 : 0 ≤ ((rd t562 (rd l0_1 (rd t573 x36_1))) : Int) := zd
                       have q584 : (rd t562 (rd l0_1 (rd t573 x36_1))) < (x9_1.length : Int) := zd
                       obtain ⟨ad584, e584, hx584_0⟩ := Kd.at_bool (rR HO_9.out).2.2 (rd t562 (rd l0_1 (rd t573 x36_1))) p584 q584
                       (try rw [← Nbq41.out] at hx584_0)
                       obtain rfl : (⟨go12, 0, none⟩ : Addr) = ad584 := (by injection e584)
                       (first | simp only [add_plain] at hx584_0 | simp only [add_at] at hx584_0 | simp only [Addr.add, Nat.zero_add] at hx584_0 | skip)
                       replace p584 := eq_true p584; replace q584 := eq_true q584
                       go_wp2
                       go_meet
                       case rel => exact ⟨_, (rdOf false x9_1 (rd t562 (rd l0_1 (rd t573 x36_1)))), zt, H', ⟨by have := HK1.out; first | omega | exact Nat.le_refl _⟩, ⟨by (try simp only [hl9_1]); (with_reducible repeat (first | apply rA | apply rN | apply rD)); exact HO_8.out⟩, ⟨by (try simp only [hl9_1]); (with_reducible repeat (first | apply rA | apply rN | apply rD)); exact HO_9.out⟩, ⟨by (try simp only [hl9_1]); (with_reducible repeat (first | apply Kd.V_alloc | apply Kd.V_drewN | apply Kd.V_drew)); exact HO_10.out⟩, ⟨by (try simp only [hl9_1]); (with_reducible repeat (first | apply rA | apply rN | apply rD)); exact HO_34.out⟩, ⟨by (try simp only [hl9_1]); (with_reducible repeat (first | refine kN ?_ _ | refine kD ?_ | refine kA ?_ _)); exact BK560.out⟩, ⟨zB_ HB⟩⟩
                      rw [if_neg c46] at H
                      exact absurd H (by simp)
                     rw [if_neg c45] at H
                     exact absurd H (by simp)
                    rw [if_neg c44] at H
                    exact absurd H (by simp)
                   rw [if_neg c43] at H
                   exact absurd H (by simp)
                  replace c42 := Bool.eq_false_iff.mpr c42; subst c42
                  have H1 : (impl_CoverTree.j1 k1 t562 x9_1 x10_1 (rd t573 x36_1) (rd l0_1 (rd t573 x36_1)) t573 (t573.length : Int) x36_1 true l0_0 l0_1) = some (r1, r2) := by rw [if_neg (show ¬ (false = true) by decide)] at H; exact H
                  clear H; have H := H1; clear H1; have H' := A0_ H; clear H
                  have p581 : 0 ≤ ((rd t573 x36_1) : Int) := zd
                  have q581 : (rd t573 x36_1) < (t562.length : Int) := zd
                  obtain ⟨ad581, e581, hx581_0⟩ := tI (rR HO_8.out).2.2 (rd t573 x36_1) p581 q581
                  obtain rfl : ad568 = ad581 := (by injection e581)
                  replace p581 := eq_true p581; replace q581 := eq_true q581
                  have p582 : 0 ≤ ((rd t562 (rd t573 x36_1)) : Int) := zd
                  have q582 : (rd t562 (rd t573 x36_1)) < (x9_1.length : Int) := zd
                  obtain ⟨ad582, e582, hx582_0⟩ := Kd.at_bool (rR HO_9.out).2.2 (rd t562 (rd t573 x36_1)) p582 q582
                  (try rw [← Nbq41.out] at hx582_0)
                  obtain rfl : (⟨go12, 0, none⟩ : Addr) = ad582 := (by injection e582)
                  (first | simp only [add_plain] at hx582_0 | simp only [add_at] at hx582_0 | simp only [Addr.add, Nat.zero_add] at hx582_0 | skip)
                  replace p582 := eq_true p582; replace q582 := eq_true q582
                  go_wp2
                  go_meet
                  case rel => exact ⟨_, (true), zt, H', ⟨by have := HK1.out; first | omega | exact Nat.le_refl _⟩, ⟨by (try simp only [hl9_1]); (with_reducible repeat (first | apply rA | apply rN | apply rD)); exact HO_8.out⟩, ⟨by (try simp only [hl9_1]); (with_reducible repeat (first | apply rA | apply rN | apply rD)); exact HO_9.out⟩, ⟨by (try simp only [hl9_1]); (with_reducible repeat (first | apply Kd.V_alloc | apply Kd.V_drewN | apply Kd.V_drew)); exact HO_10.out⟩, ⟨by (try simp only [hl9_1]); (with_reducible repeat (first | apply rA | apply rN | apply rD)); exact HO_34.out⟩, ⟨by (try simp only [hl9_1]); (with_reducible repeat (first | refine kN ?_ _ | refine kD ?_ | refine kA ?_ _)); exact BK560.out⟩, ⟨zB_ HB⟩⟩
                 rw [if_neg c40] at H
                 exact absurd H (by simp)
                rw [if_neg c39] at H
                exact absurd H (by simp)
               rw [if_neg c38] at H
               exact absurd H (by simp)
              case rest =>
               clear HC36; (try clear c1); (try clear p1); (try clear q1); (try clear hx1); (try clear c2); (try clear p2); (try clear c3); (try clear c4); (try clear q4); (try clear c5); (try clear p5); (try clear q5); (try clear hx5); (try clear qi5); (try clear c7); (try clear c7b0); (try clear c7b1); (try clear c8); (try clear c8b0); (try clear c8b1); (try clear c9); (try clear c9b0); (try clear c9b1); (try clear c10); (try clear c10b0); (try clear c11); (try clear c11b0); (try clear p12); (try clear q12); (try clear hx12); (try clear hf12); (try clear c20); (try clear c31); (try clear c31b0); (try clear c32); (try clear c32b0); (try clear c33); (try clear c33b0); (try clear c34); (try clear c34b0); (try clear c35); (try clear c35b0); (try clear c38); (try clear c38b0); (try clear c39); (try clear c39b0); (try clear c40); (try clear c40b0); (try clear q41); (try clear c42); (try clear c43); (try clear c43b0); (try clear c44); (try clear c44b0); (try clear c45); (try clear c45b0); (try clear c46); (try clear c46b0); (try clear hcz16_0); (try clear hcz16_1); (try clear hcz18_0); (try clear hcz18_1); (try clear hcz20_0); (try clear hcz20_1); (try clear hcz26_0); (try clear hcz26_1); (try clear hcz37_0); (try clear hcz37_1); (try clear hfz16_0); (try clear hfz16_1); (try clear hfz18_0); (try clear hfz18_1); (try clear hfz20_0); (try clear hfz20_1); (try clear hfz26_0); (try clear hfz26_1); (try clear hfz37_0); (try clear hfz37_1); (try clear hx12_0); (try clear hx568_0); (try clear hx579_0); (try clear hx580_0); (try clear hx581_0); (try clear hx582_0); (try clear hx583_0); (try clear hx584_0); (try clear p1); (try clear p12); (try clear p2); (try clear p5); (try clear p568); (try clear p579); (try clear p580); (try clear p581); (try clear p582); (try clear p583); (try clear p584); (try clear q1); (try clear q12); (try clear q5); (try clear q568); (try clear q579); (try clear q580); (try clear q581); (try clear q582); (try clear q583); (try clear q584); obtain ⟨kq, x61_35, rfl, HA, HJ35, HO_8, HO_9, HO_10, HO_34, BK560, HB⟩ := hcut
               cases kq with
               | zero => exact absurd HA.out (by simp [impl_CoverTree.j1])
               | succ kj35 =>
                have H := HA.out; clear HA; simp only [impl_CoverTree.j1] at H
                by_cases c47 : x61_35 = true
                ·subst c47
                 have H1 : (impl_CoverTree.l0 kj35 t562 x9_1 x10_1 t573 (t573.length : Int) (wrap64 (x36_1 + 1)) l0_0 l0_1) = some (r1, r2) := by rw [if_pos rfl] at H; exact H
                 clear H; have H := H1; clear H1; have H' := A0_ H; clear H
                 go_wp2
                 (try simp only [← hl9_1])
                 go_roundg kj35
                 case measure => have := HK1.out; have := HJ35.out; omega
                 case rel => exact ⟨(x9_1), (x10_1), (wrap64 (x36_1 + 1)), zt, H', ⟨by have := HK1.out; have := HJ35.out; omega⟩, ⟨by (try simp only [hl9_1]); (with_reducible repeat (first | apply rA | apply rN | apply rD)); exact HO_8.out⟩, ⟨by (try simp only [hl9_1]); (with_reducible repeat (first | apply rA | apply rN | apply rD)); exact HO_9.out⟩, ⟨by (try simp only [hl9_1]); (with_reducible repeat (first | apply Kd.V_alloc | apply Kd.V_drewN | apply Kd.V_drew)); exact HO_10.out⟩, ⟨by (try simp only [hl9_1]); (with_reducible repeat (first | apply rA | apply rN | apply rD)); exact HO_34.out⟩, ⟨by (try simp only [hl9_1]); (with_reducible repeat (first | refine kN ?_ _ | refine kD ?_ | refine kA ?_ _)); exact BK560.out⟩, ⟨zB_ HB⟩⟩
                replace c47 := Bool.eq_false_iff.mpr c47; subst c47
                have H1 : (if 0 ≤ (rd l0_1 (rd t573 x36_1)) then (if (rd l0_1 (rd t573 x36_1)) < (t562.length : Int) then (if 0 ≤ (rd t562 (rd l0_1 (rd t573 x36_1))) then (if (rd t562 (rd l0_1 (rd t573 x36_1))) < (x9_1.length : Int) then ((impl_along.f kj35 l0_0 l0_1 x10_1 (rd t573 x36_1)).bind fun t587 => ((impl_back.f kj35 t587).bind fun t591 => ((impl_conjAt.f kj35 l0_0 l0_1 x10_1 (rd t562 (rd l0_1 (rd t573 x36_1))) t591).bind fun t594 => (impl_CoverTree.l0 kj35 t562 (x9_1.set ((rd t562 (rd l0_1 (rd t573 x36_1))) : Int).toNat true) t594 t573 (t573.length : Int) (wrap64 (x36_1 + 1)) l0_0 l0_1)))) else (none)) else (none)) else (none)) else (none)) = some (r1, r2) := by rw [if_neg (show ¬ (false = true) by decide)] at H; exact H
                clear H; have H := H1; clear H1
                by_cases c48 : 0 ≤ (rd l0_1 (rd t573 x36_1))
                ·rw [if_pos c48] at H
                 have c48b0 := dT c48; clear c48
                 by_cases c49 : (rd l0_1 (rd t573 x36_1)) < (t562.length : Int)
                 ·rw [if_pos c49] at H
                  have c49b0 := dT c49; (try simp only [hl9_1] at c49b0); clear c49
                  by_cases c50 : 0 ≤ (rd t562 (rd l0_1 (rd t573 x36_1)))
                  ·rw [if_pos c50] at H
                   have c50b0 := dT c50; clear c50
                   by_cases c51 : (rd t562 (rd l0_1 (rd t573 x36_1))) < (x9_1.length : Int)
                   ·rw [if_pos c51] at H
                    have c51b0 := dT c51; (try simp only [hl9_1] at c51b0); clear c51
                    obtain ⟨y586, hy586⟩ : ∃ y_ : List Bool, y_ = (x9_1.set ((rd t562 (rd l0_1 (rd t573 x36_1))) : Int).toNat true) := ⟨_, rfl⟩
                    replace H : ((impl_along.f kj35 l0_0 l0_1 x10_1 (rd t573 x36_1)).bind fun t587 => ((impl_back.f kj35 t587).bind fun t591 => ((impl_conjAt.f kj35 l0_0 l0_1 x10_1 (rd t562 (rd l0_1 (rd t573 x36_1))) t591).bind fun t594 => (impl_CoverTree.l0 kj35 t562 y586 t594 t573 (t573.length : Int) (wrap64 (x36_1 + 1)) l0_0 l0_1)))) = some (r1, r2) := zH hy586 H
                    have Ny586 := A0_ hy586; clear hy586; obtain ⟨t587, A53, H⟩ := zbind H; obtain ⟨t591, A54, H⟩ := zbind H; obtain ⟨t594, A55, H⟩ := zbind H; have H' := A0_ H; clear H
                    have p585 : 0 ≤ ((rd l0_1 (rd t573 x36_1)) : Int) := zd
                    have q585 : (rd l0_1 (rd t573 x36_1)) < (t562.length : Int) := zd
                    obtain ⟨ad585, e585, hx585_0⟩ := tI (rR HO_8.out).2.2 (rd l0_1 (rd t573 x36_1)) p585 q585
                    obtain rfl : ad568 = ad585 := (by injection e585)
                    replace p585 := eq_true p585; replace q585 := eq_true q585
                    have p52 : 0 ≤ ((rd t562 (rd l0_1 (rd t573 x36_1))) : Int) := zd
                    have q52 : ((rd t562 (rd l0_1 (rd t573 x36_1))) : Int) < ((x9_1.length : Int) : Int) := zd
                    obtain ⟨hx52_0, hf52_0⟩ := Kd.R_celln false HO_9.out ((rd t562 (rd l0_1 (rd t573 x36_1))) : Int) p52 q52
                    replace p52 := eq_true p52; replace q52 := eq_true q52
                    have HP56 := Kd.R_putg HO_9.out ((rd t562 (rd l0_1 (rd t573 x36_1))) : Int) true
                    try go_wp2_with (first | ((with_reducible refine gS (t := 4) (p := 67) rfl ?_); refine store_event (t := 4) (p := 67) (v := ?vo_w57) (w1 := (wc.setCell ⟨go12, ((rd t562 (rd l0_1 (rd t573 x36_1))) : Int).toNat, none⟩ (.bool true))) ?hg ?ho ?hn ?hr ?_; (case ho => rfl); (case hg => rfl); (case hn => rfl); (case hr => first | (go_simp; done) | (go_simp; rfl)); intro w57 hw; have hg : wc.grownBy w57 (some go12) := (by rw [hw]; exact HP56.2); have hp_ : Kd.R Kd.bool 4 w57 w.heap.size (fun k_ => (w.heap.size ≤ k_)) (.slice (some ⟨go12, 0, none⟩) x9_1.length co12) y586 := (by rw [hw, Ny586.out]; exact HP56.1); clear HP56; replace HO_8 := A0_ (Kd.R_over' (v := (.slice (some ⟨go12, 0, none⟩) x9_1.length co12)) (zR_ HO_8) (Kd.R_typed HO_9.out) (by decide) hg); replace HO_10 := A0_ (Kd.V_afterv (v := (.slice (some ⟨go12, 0, none⟩) x9_1.length co12)) (v1 := (.slice (some ⟨go12, 0, none⟩) x9_1.length co12)) (ok := (fun k_ => (P2_ k_ ∨ w.heap.size ≤ k_) ∧ some k_ ≠ (.slice (some ad568) t562.length co23 : Value).ownBlock ∧ some k_ ≠ (.slice (some ad579) t573.length co30 : Value).ownBlock ∧ k_ ≠ gb560)) (by (with_reducible repeat apply Kd.V_alloc); exact Kd.V_mono HO_10.out (fun _ hk => ⟨⟨hk.1, ⟨hk.2.1, ⟨hk.2.2.2.1, hk.2.2.2.2⟩⟩⟩, hk.2.2.1⟩)) hg (.inl rfl)); replace HO_34 := A0_ (Kd.R_over' (v := (.slice (some ⟨go12, 0, none⟩) x9_1.length co12)) (zR_ HO_34) (Kd.R_typed HO_9.out) (by decide) hg); replace BK560 := A0_ (blk_grown (g := gb560) (o := .cells #[.slice A0_0 l0_0.length c0_0, .slice (some ad580) l0_1.length c0_1] 29 (0, 0)) (zK_ BK560) hg (Kd.R_ne HO_9.out BK560.out (by decide))); replace HO_9 := A0_ (hp_); replace HB := A0_ ((by rw [hw]; exact bS (HB.out) GB12.out : Below w.heap.size w w57)); clear hg hw hp_; have hcz58_0 := zc0 BK560; have hcz58_1 := zc1 BK560; have hfz58_0 := kF BK560.out 0; have hfz58_1 := kF BK560.out 1; obtain ⟨Ao59, co59, eo59⟩ := Kd.V_slice HO_10.out; subst eo59) | ((with_reducible refine gC (f := 91) rfl ?_); refine zJ (some 71) Try.func91 #[.agg #[.slice A0_0 l0_0.length c0_0, .slice (some ad580) l0_1.length c0_1], .slice Ao59 x10_1.length co59, .int .i64 (rd t573 x36_1)] ?_; (with_reducible refine (impl_along.calls kj35 _ _ l0_0 _ _ l0_1 (fun k_ => (((P2_ k_ ∨ w.heap.size ≤ k_) ∧ (some k_ ≠ (.slice (some ad568) t562.length co23 : Value).ownBlock ∧ (some k_ ≠ (.slice (some ad579) t573.length co30 : Value).ownBlock ∧ k_ ≠ gb560))) ∧ some k_ ≠ (.slice (some ⟨go12, 0, none⟩) x9_1.length co12 : Value).ownBlock)) _ _ x10_1 (rd t573 x36_1) t587 _ ?side1 ?side2 ?side3 ?side4 ?side5 A53.out).mono ?_); (case side1 => exact zC HR0_0 HB); (case side2 => exact HC0_0.out); (case side3 => exact zC HR0_1 HB); (case side4 => exact HC0_1.out); (case side5 => exact HO_10.out); rintro e w60 ⟨v588, rfl, ho0, hb⟩; refine ⟨_, rfl, ?_⟩; replace HO_10 := A0_ (Kd.V_below (by (with_reducible repeat apply Kd.V_alloc); exact HO_10.out) hb); have HO589 := A0_ (Kd.V_lower (Kd.V_mono (ok' := fun k_ => (P2_ k_ ∨ w.heap.size ≤ k_) ∧ some k_ ≠ (.slice (some ad568) t562.length co23 : Value).ownBlock ∧ some k_ ≠ (.slice (some ⟨go12, 0, none⟩) x9_1.length co12 : Value).ownBlock ∧ some k_ ≠ (.slice (some ad579) t573.length co30 : Value).ownBlock ∧ k_ ≠ gb560) ho0 (fun k_ hk_ => ⟨Or.elim hk_ (fun hs_ => hs_.1.1) (fun hn_ => (.inr (Nat.le_trans (bZ (zB_ HB)) hn_))), Or.elim hk_ (fun hs_ => hs_.1.2.1) (fun hn_ => (Kd.fresh' (rX (zR_ HO_8)) k_ hn_)), Or.elim hk_ (fun hs_ => hs_.2) (fun hn_ => (Kd.fresh' (rX (zR_ HO_9)) k_ hn_)), Or.elim hk_ (fun hs_ => hs_.1.2.2.1) (fun hn_ => (Kd.fresh' (rX (zR_ HO_34)) k_ hn_)), Or.elim hk_ (fun hs_ => hs_.1.2.2.2) (fun hn_ => (Kd.freshB (g := gb560) (o := .cells #[.slice A0_0 l0_0.length c0_0, .slice (some ad580) l0_1.length c0_1] 29 (0, 0)) (zK_ BK560) k_ hn_))⟩)) (bZ (zB_ HB))); replace HO_8 := zR HO_8 hb; replace HO_9 := zR HO_9 hb; replace HO_34 := zR HO_34 hb; replace BK560 := zK BK560 hb; replace HB := zB HB hb; (try clear hb); (try clear ho0)))
                    replace HO_8 := A0_ (rD HO_8.out)
                    replace HO_9 := A0_ (rD HO_9.out)
                    replace HO_10 := A0_ (Kd.V_drew HO_10.out)
                    replace HO_34 := A0_ (rD HO_34.out)
                    replace HO589 := A0_ (Kd.V_drew HO589.out)
                    replace BK560 := A0_ (kD BK560.out)
                    replace HB := A0_ (bD HB.out)
                    have p590 : 0 ≤ ((rd l0_1 (rd t573 x36_1)) : Int) := zd
                    have q590 : (rd l0_1 (rd t573 x36_1)) < (t562.length : Int) := zd
                    obtain ⟨ad590, e590, hx590_0⟩ := tI (rR HO_8.out).2.2 (rd l0_1 (rd t573 x36_1)) p590 q590
                    obtain rfl : ad568 = ad590 := (by injection e590)
                    replace p590 := eq_true p590; replace q590 := eq_true q590; obtain ⟨Ao62, co62, eo62⟩ := Kd.V_slice HO589.out
                    (first | subst eo62 | (injection eo62 with f1_ f2_ f3_; have f4_ := f1_.symm; have f5_ := f3_.symm; clear f1_ f2_ f3_; subst f4_; subst f5_))
                    refine start_ (n := 10) (S := fun w' => w'.cell? ⟨gb560, 0, none⟩ = some (.slice A0_0 l0_0.length c0_0) ∧ w'.cell? ⟨gb560, 1, none⟩ = some (.slice (some ad580) l0_1.length c0_1) ∧ w'.cell? (ad568.add ((rd l0_1 (rd t573 x36_1))).toNat) = some (.int .i64 (rd t562 (rd l0_1 (rd t573 x36_1))))) (ds := []) #[false, false, false, false, false, false, false, false, false, false] (by kernel_rfl) rfl rfl ⟨(kC BK560.out 0).trans rfl, (kC BK560.out 1).trans rfl, hx590_0⟩ (fun hHeld => ?_); refine with_tabW impl_CoverTree.tab14 impl_CoverTree.bits14 (fun HT_ HW_ => ?_)
                    generalize w60.drew = w61 at HO_8 HO_9 HO_10 HO_34 HO589 BK560 HB hx590_0 hHeld ⊢
                    refine zP 1 (some 73) #[false,true,false,false,false,false,false,false,false,false] ?_
                    refine zP 2 (some 74) #[false,true,true,false,false,false,false,false,false,false] ?_
                    refine zP 3 (some 75) #[false,true,true,true,false,false,false,false,false,false] ?_
                    refine zP 4 (some 76) #[false,true,true,true,true,false,false,false,false,false] ?_
                    refine zP 6 (some 78) #[false,true,true,true,true,false,true,false,false,false] ?_
                    refine take_ (i := 0) (N := some 72) (v := ?_) (a' := ?_) #[true, true, true, true, true, false, true, false, false, false] rfl rfl (take_ofW HT_.out HW_.out (by kernel_rfl)) (fun _ _ _ h => h) (Or.inl ⟨by rfl, ?_⟩) hHeld ?_ ?_
                    rotate_left
                    ·rintro w' ⟨s0, s1, s2⟩
                     go_simp
                     with_reducible rfl
                    rotate_left
                    ·simp only [Act.put, List.setIfInBounds_toArray, List.set_cons_zero, List.set_cons_succ, i64_w, i32_w]
                     rfl
                    refine take_ (i := 5) (N := some 77) (v := ?_) (a' := ?_) #[true, true, true, true, true, true, true, false, false, false] rfl rfl (take_ofW HT_.out HW_.out (by kernel_rfl)) (fun _ _ _ h => h) (Or.inl ⟨by rfl, ?_⟩) hHeld ?_ ?_
                    rotate_left
                    ·rintro w' ⟨s0, s1, s2⟩
                     go_simp
                     with_reducible rfl
                    rotate_left
                    ·simp only [Act.put, List.setIfInBounds_toArray, List.set_cons_zero, List.set_cons_succ, i64_w, i32_w]
                     rfl
                    refine one_ (i := 7) (N := some 79) #[true, true, true, true, true, true, true, true, false, false] rfl rfl (one_of HT_.out (by kernel_rfl)) (by decide) (fun K hK => ?_)
                    refine goes_ Try.func89 (by kernel_rfl) rfl #[.slice Ao62 t587.length co62] (by rfl) rfl rfl (by (try simp only [List.map_toArray, List.map_cons, List.map_nil]); first | done | rfl | (simp only [List.length_drop, List.length_take]; rfl)) ?_
                    with_reducible refine (impl_back.calls kj35 _ _ t587 t591 _ ?side1 ?side2 A54.out).mono ?_
                    (case side1 => repeat (first | exact (Kd.V_reads' HO589.out).2.2 | (with_reducible refine cA ?_ _) | (with_reducible refine cN ?_ _) | (with_reducible refine cD ?_)))
                    (case side2 => exact (Kd.V_reads' HO589.out).2.1)
                    rintro e w63 ⟨v592, rfl, ho0, hb⟩
                    have HS2_ := (hb.cell (wL _ _ (hHeld.2.2))).trans (hHeld.2.2)
                    refine ⟨_, rfl, ?_⟩
                    replace HO_9 := zR HO_9 hb
                    replace HO_10 := A0_ (Kd.V_elder' (by (with_reducible repeat (first | apply Kd.V_alloc | apply Kd.V_drewN | apply Kd.V_drew)); exact HO_10.out) (Kd.R_base ho0) hb)
                    replace HO589 := A0_ (Kd.V_elder' (by (with_reducible repeat (first | apply Kd.V_alloc | apply Kd.V_drewN | apply Kd.V_drew)); exact HO589.out) (Kd.R_base ho0) hb)
                    have HO593 := A0_ (rL (Kd.R_new' (Kd.R_new' (Kd.R_newM (M := fun k_ => (w.heap.size ≤ k_)) ho0 (bZ (zB_ HB)) (fun k_ h_ => h_)) (rX (zR_ HO_8))) (rX (zR_ HO_34))) (bZ (zB_ HB)))
                    replace HO_8 := A0_ (Kd.R_elder' (zR_ HO_8) (Kd.R_base ho0) hb)
                    replace HO_34 := A0_ (Kd.R_elder' (zR_ HO_34) (Kd.R_base ho0) hb)
                    replace BK560 := zK BK560 hb; replace HB := zB HB hb; (try clear hb); (try clear hb2); (try clear hk); (try clear hi); (try clear ho0); obtain ⟨Ao64, co64, eo64⟩ := rS HO593.out
                    (first | subst eo64 | (injection eo64 with f1_ f2_ f3_; have f4_ := f1_.symm; have f5_ := f3_.symm; clear f1_ f2_ f3_; subst f4_; subst f5_))
                    refine hK.out _ _ ⟨(kC BK560.out 0).trans rfl, (kC BK560.out 1).trans rfl, HS2_⟩ (fun hHeld => ?_)
                    clear hK K
                    refine norm_ (a' := ?_) ?_ ?_
                    rotate_left
                    ·show Act.put _ (some 79) _ = _
                     simp only [Act.put, List.setIfInBounds_toArray, List.set_cons_zero, List.set_cons_succ, i64_w, i32_w]
                     rfl
                    refine one_ (i := 8) (N := some 80) #[true, true, true, true, true, true, true, true, true, false] rfl rfl (one_of HT_.out (by kernel_rfl)) (by decide) (fun K hK => ?_)
                    refine goes_ Try.func83 (by kernel_rfl) rfl #[.agg #[.slice A0_0 l0_0.length c0_0, .slice (some ad580) l0_1.length c0_1], .slice Ao59 x10_1.length co59, .int .i64 (rd t562 (rd l0_1 (rd t573 x36_1))), .slice Ao64 t591.length co64] (by rfl) rfl rfl (by (try simp only [List.map_toArray, List.map_cons, List.map_nil]); first | done | rfl | (simp only [List.length_drop, List.length_take]; rfl)) ?_
                    with_reducible refine (impl_conjAt.calls kj35 _ _ l0_0 _ _ l0_1 _ _ x10_1 (rd t562 (rd l0_1 (rd t573 x36_1))) _ _ t591 t594 _ ?side1 ?side2 ?side3 ?side4 ?side5 ?side6 ?side7 ?side8 A55.out).mono ?_
                    (case side1 => exact zC HR0_0 HB)
                    (case side2 => exact HC0_0.out)
                    (case side3 => exact zC HR0_1 HB)
                    (case side4 => exact HC0_1.out)
                    (case side5 => repeat (first | exact (Kd.V_reads' HO_10.out).2.2 | (with_reducible refine cA ?_ _) | (with_reducible refine cN ?_ _) | (with_reducible refine cD ?_)))
                    (case side6 => exact (Kd.V_reads' HO_10.out).2.1)
                    (case side7 => exact zD HO593)
                    (case side8 => exact (rR HO593.out).2.1)
                    rintro e w65 ⟨v595, rfl, ho0, hb⟩
                    have HS2_ := (hb.cell (wL _ _ (hHeld.2.2))).trans (hHeld.2.2)
                    refine ⟨_, rfl, ?_⟩
                    replace HO_9 := zR HO_9 hb
                    replace HO_10 := A0_ (Kd.V_elder' (by (with_reducible repeat (first | apply Kd.V_alloc | apply Kd.V_drewN | apply Kd.V_drew)); exact HO_10.out) (Kd.S_base ho0) hb)
                    replace HO589 := A0_ (Kd.V_elder' (by (with_reducible repeat (first | apply Kd.V_alloc | apply Kd.V_drewN | apply Kd.V_drew)); exact HO589.out) (Kd.S_base ho0) hb)
                    have HO596 := A0_ (Kd.S_lower (Kd.S_new' (Kd.S_new' (Kd.S_new' (Kd.S_newM (M := fun k_ => (w.heap.size ≤ k_)) ho0 (bZ (zB_ HB)) (fun k_ h_ => h_)) (rX (zR_ HO_8))) (rX (zR_ HO_34))) (rX (zR_ HO593))) (bZ (zB_ HB)))
                    replace HO_8 := zR HO_8 hb; replace HO_34 := zR HO_34 hb; replace HO593 := zR HO593 hb; replace BK560 := zK BK560 hb; replace HB := zB HB hb; (try clear hb); (try clear hb2); (try clear hk); (try clear hi); (try clear ho0)
                    refine hK.out _ _ ⟨(kC BK560.out 0).trans rfl, (kC BK560.out 1).trans rfl, HS2_⟩ (fun hHeld => ?_)
                    clear hK K
                    refine norm_ (a' := ?_) ?_ ?_
                    rotate_left
                    ·show Act.put _ (some 80) _ = _
                     simp only [Act.put, List.setIfInBounds_toArray, List.set_cons_zero, List.set_cons_succ, i64_w, i32_w]
                     rfl
                    refine zP 9 (some 10) #[true,true,true,true,true,true,true,true,true,true] ?_
                    refine done_ (done_of HT_.out (by kernel_rfl)) ?_
                    try go_wp2
                    (try simp only [← hl9_1])
                    go_roundg kj35
                    case measure => have := HK1.out; have := HJ35.out; omega
                    case rel => exact ⟨(y586), (t594), (wrap64 (x36_1 + 1)), zt, H', ⟨by have := HK1.out; have := HJ35.out; omega⟩, ⟨by (try simp only [hl9_1]); (with_reducible repeat (first | apply rA | apply rN | apply rD)); exact rM HO_8.out (fun _ hk => ⟨hk.1.1, hk.1.2⟩)⟩, ⟨by (try simp only [hl9_1]); (with_reducible repeat (first | apply rA | apply rN | apply rD)); exact HO_9.out⟩, ⟨Kd.V_mono (Kd.S_V (ok := fun k_ => (w.heap.size ≤ k_) ∧ some k_ ≠ ((.slice (some ad568) t562.length co23) : Value).ownBlock ∧ some k_ ≠ ((.slice (some ⟨go12, 0, none⟩) x9_1.length co12) : Value).ownBlock ∧ some k_ ≠ ((.slice (some ad579) t573.length co30) : Value).ownBlock ∧ k_ ≠ gb560) (by (try simp only [hl9_1]); (with_reducible repeat (first | apply sA | apply sN | apply sD)); exact sM (Kd.S_types (Kd.S_apart' HO596.out (Kd.R_typed HO_9.out) (by decide)) BK560.out (by decide)) (fun _ hk => ⟨hk.1.1.1.1.1.1, ⟨hk.1.1.1.1.2, ⟨hk.1.2, ⟨hk.1.1.1.2, hk.2⟩⟩⟩⟩))) (fun k_ hk => by first | exact ⟨(.inr (hk.1)), hk.2⟩ | exact (.inr (hk)))⟩, ⟨by (try simp only [hl9_1]); (with_reducible repeat (first | apply rA | apply rN | apply rD)); exact rM HO_34.out (fun _ hk => ⟨hk.1.1, hk.1.2⟩)⟩, ⟨by (try simp only [hl9_1]); (with_reducible repeat (first | refine kN ?_ _ | refine kD ?_ | refine kA ?_ _)); exact BK560.out⟩, ⟨zB_ HB⟩⟩
                   rw [if_neg c51] at H
                   exact absurd H (by simp)
                  rw [if_neg c50] at H
                  exact absurd H (by simp)
                 rw [if_neg c49] at H
                 exact absurd H (by simp)
                rw [if_neg c48] at H
                exact absurd H (by simp)
             rw [if_neg c35] at H
             exact absurd H (by simp)
            rw [if_neg c34] at H
            exact absurd H (by simp)
           rw [if_neg c33] at H
           exact absurd H (by simp)
          rw [if_neg c32] at H
          exact absurd H (by simp)
         rw [if_neg c31] at H; have c31b0 := dF c31; (try simp only [hl9_1] at c31b0); clear c31; obtain ⟨t576, A66, H⟩ := zbind H; simp only [Option.some.injEq, Prod.mk.injEq] at H; obtain ⟨rfl, rfl⟩ := H; obtain ⟨Ao67, co67, eo67⟩ := Kd.V_slice HO_10.out; subst eo67
         go_wp2_with (first | ((with_reducible refine gC (f := 92) rfl ?_); refine zJ (some 83) Try.func92 #[.slice Ao67 x10_1.length co67] ?_; (with_reducible refine (impl_copyLists.calls k1 _ _ x10_1 t576 _ ?side1 ?side2 A66.out).mono ?_); (case side1 => repeat (first | exact (Kd.V_reads' HO_10.out).2.2 | (with_reducible refine cA ?_ _))); (case side2 => exact (Kd.V_reads' HO_10.out).2.1); rintro e w68 ⟨v577, rfl, ho0, hb⟩; refine ⟨_, rfl, ?_⟩; replace HO_9 := zR HO_9 hb; replace HO_10 := A0_ (Kd.V_elder' (by (with_reducible repeat apply Kd.V_alloc); exact HO_10.out) (Kd.S_base ho0) hb); have HO578 := A0_ (Kd.S_lower (Kd.S_new' (Kd.S_new' (Kd.S_newM (M := fun k_ => (w.heap.size ≤ k_)) ho0 (bZ (zB_ HB)) (fun k_ h_ => h_)) (rX (zR_ HO_8))) (rX (zR_ HO_34))) (bZ (zB_ HB))); replace HO_8 := zR HO_8 hb; replace HO_34 := zR HO_34 hb; replace BK560 := zK BK560 hb; replace HB := zB HB hb; (try clear hb); (try clear ho0)))
         go_ret2
         exact ⟨_, by first | rfl | (simp [*] <;> rfl), zmS HO578 (fun _ hk => hk.1.1.1), zB_ HB⟩
      rw [if_neg c11] at H
      exact absurd H (by simp)
     rw [if_neg c10] at H
     exact absurd H (by simp)
    rw [if_neg c9] at H
    exact absurd H (by simp)
   rw [if_neg c8] at H
   exact absurd H (by simp)
  rw [if_neg c7] at H
  exact absurd H (by simp)
 replace c5 := Bool.eq_false_iff.mpr c5; subst c5
 have H1 : (some (([] : List (List Int)), false)) = some (r1, r2) := by rw [if_neg (show ¬ (false = true) by decide)] at H; exact H
 clear H; have H := H1; clear H1; simp only [Option.some.injEq, Prod.mk.injEq] at H; obtain ⟨rfl, rfl⟩ := H
 go_enter Try.func50, Try.ntmps50
 go_wp2_with (first | ((with_reducible refine gD (N := 3) rfl ?_); refine zX (N := 3) (cs := #[.slice A0_0 l0_0.length c0_0, .slice A0_1 l0_1.length c0_1]) (t := 29) ?_; intro gb560 hg w69 hbox hb; replace HO2 := A0_ (Kd.V_below (Kd.V_elderB (by (with_reducible repeat apply Kd.V_alloc); exact HO2.out) gb560 (Nat.le_of_eq hg.symm)) hb); have BK560 := A0_ (hbox); have GW560 := zG hg HB; have GE560 := zG hg HB; replace HB := zB HB hb; clear hb hbox hg; have hcz70_0 := zc0 BK560; have hcz70_1 := zc1 BK560; have hfz70_0 := kF BK560.out 0; have hfz70_1 := kF BK560.out 1) | ((with_reducible refine gC (f := 20) rfl ?_); refine zJ (some 18) Try.func20 #[.agg #[.slice A0_0 l0_0.length c0_0, .slice A0_1 l0_1.length c0_1], .int .i64 a1, .slice A2 l2.length c2] ?_; (with_reducible refine (impl_VoltageValid.calls k _ _ l0_0 _ _ l0_1 a1 _ _ l2 false _ ?side1 ?side2 ?side3 ?side4 ?side5 ?side6 A4.out).mono ?_); (case side1 => exact zC HR0_0 HB); (case side2 => exact HC0_0.out); (case side3 => exact zC HR0_1 HB); (case side4 => exact HC0_1.out); (case side5 => repeat (first | exact (Kd.V_reads' HO2.out).2.2 | (with_reducible refine cA ?_ _))); (case side6 => exact (Kd.V_reads' HO2.out).2.1); rintro e w71 ⟨rfl, hb⟩; refine ⟨_, rfl, ?_⟩; replace HO2 := A0_ (Kd.V_below (by (with_reducible repeat apply Kd.V_alloc); exact HO2.out) hb); replace BK560 := zK BK560 hb; replace HB := zB HB hb; (try clear hb)))
 go_ret2
 exact ⟨_, by first | rfl | (simp [*] <;> rfl), by first | exact Kd.S_nil _ _ _ _ _ | exact Kd.N_nil _ _ _ _ _ | exact Kd.V_nil _ _ _ _ _ | exact Kd.Q_nil _ _ _ _ _ | exact Kd.R_nil _ _ _ _ _, zB_ HB⟩

end Go.Proofs.Ytmcgkckdnelcdaa.PFnExactCoverTree
