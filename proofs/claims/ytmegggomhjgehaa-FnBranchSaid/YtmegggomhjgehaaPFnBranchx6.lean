-- Made by a program of this session (wip/tools) out of the loaded program; not trusted: Lean checks it.
import Derived.Test.YtmegggomhjgehaaPFnBranchx0
import Derived.Test.YtmegggomhjgehaaPFnBranchx2
import Derived.Test.YtmegggomhjgehaaPFnBranchx3
import Derived.Test.YtmegggomhjgehaaPFnBranchx4
import Derived.Test.YtmegggomhjgehaaPFnBranchx5
-- packed
namespace Go.Proofs.Ytmegggomhjgehaa.PFnBranch
open Go.RowKit Go.Proofs.YtmegggomhjgehaaW.PrintWords Go.Proofs.YtmegggomhjgehaaW.PrintLast Go.Proofs.YtmegggomhjgehaaW.PrintMore
attribute [local go_sem] max2_int min2_int max_two min_two max_three min_three max_four min_four   -- for this text's walks alone
set_option linter.unusedVariables false
set_option linter.unusedSimpArgs false

/-! ### impl_CoverTree: function 14 -/
mutual
def impl_CoverTree.l0 : Nat → List Int → List Bool → List (List Int) → List Int → Int → Int → List Int → List Int → Option ((List (List Int)) × Bool)
  | 0, _, _, _, _, _, _, _, _ => none
  | k + 1, x8, x9, x10, x34, x35, x36, x280000, x280001 => if x36 < x35 then (if 0 ≤ x36 then (if x36 < (x34.length : Int) then (if 0 ≤ (rd x34 x36) then (if (rd x34 x36) < (x280001.length : Int) then (if (rd x34 x36) < (x8.length : Int) then (if 0 ≤ (rd x8 (rd x34 x36)) then (if (rd x8 (rd x34 x36)) < (x9.length : Int) then (if (rdOf false x9 (rd x8 (rd x34 x36)) = true) then (if 0 ≤ (rd x280001 (rd x34 x36)) then (if (rd x280001 (rd x34 x36)) < (x8.length : Int) then (if 0 ≤ (rd x8 (rd x280001 (rd x34 x36))) then (if (rd x8 (rd x280001 (rd x34 x36))) < (x9.length : Int) then (impl_CoverTree.j1 k x8 x9 x10 (rd x34 x36) (rd x280001 (rd x34 x36)) x34 x35 x36 (rdOf false x9 (rd x8 (rd x280001 (rd x34 x36)))) x280000 x280001) else (none)) else (none)) else (none)) else (none)) else (impl_CoverTree.j1 k x8 x9 x10 (rd x34 x36) (rd x280001 (rd x34 x36)) x34 x35 x36 true x280000 x280001)) else (none)) else (none)) else (none)) else (none)) else (none)) else (none)) else (none)) else ((impl_copyLists.f k x10).bind fun t295 => (some (t295, true)))
def impl_CoverTree.j1 : Nat → List Int → List Bool → List (List Int) → Int → Int → List Int → Int → Int → Bool → List Int → List Int → Option ((List (List Int)) × Bool)
  | 0, _, _, _, _, _, _, _, _, _, _, _ => none
  | k + 1, x8, x9, x10, x12, x13, x34, x35, x36, x61, x280000, x280001 => if x61 = true then (impl_CoverTree.l0 k x8 x9 x10 x34 x35 (wrap64 (x36 + 1)) x280000 x280001) else (if 0 ≤ x13 then (if x13 < (x8.length : Int) then (if 0 ≤ (rd x8 x13) then (if (rd x8 x13) < (x9.length : Int) then ((impl_along.f k x280000 x280001 x10 x12).bind fun t306 => ((impl_back.f k t306).bind fun t310 => ((impl_conjAt.f k x280000 x280001 x10 (rd x8 x13) t310).bind fun t313 => (impl_CoverTree.l0 k x8 (x9.set ((rd x8 x13) : Int).toNat true) t313 x34 x35 (wrap64 (x36 + 1)) x280000 x280001)))) else (none)) else (none)) else (none)) else (none))
end
def impl_CoverTree.f (k : Nat) (l0_0 : List Int) (l0_1 : List Int) (a1 : Int) (l2 : List (List Int)) : Option ((List (List Int)) × Bool) := (impl_VoltageValid.f k l0_0 l0_1 a1 l2).bind fun t280 => (if t280 = true then ((impl_vertexOf.f k l0_0 l0_1).bind fun t281 => (if 0 ≤ (l0_0.length : Int) then (if ((l0_0.length : Int) : Int).toNat ≤ 281474976710656 then ((some (List.replicate ((l0_0.length : Int) : Int).toNat false : List Bool)).bind fun y284 => (if 0 < (t281.length : Int) then (if 0 ≤ (rd t281 0) then (if (rd t281 0) < (y284.length : Int) then ((impl_namesFrom.f k l0_0 l0_1 0).bind fun t289 => ((impl_back.f k t289).bind fun t292 => (impl_CoverTree.l0 k t281 (y284.set ((rd t281 0) : Int).toNat true) l2 t292 (t292.length : Int) 0 l0_0 l0_1))) else (none)) else (none)) else (none))) else (none)) else (none))) else (some (([] : List (List Int)), false)))
def impl_CoverTree.T14 : Bool × List (List Nat × List Nat) := (true, [([], []), ([], []), ([], []), ([], []), ([2, 3], [2, 3]), ([4], [4]), ([], []), ([6], [6]), ([0, 1, 5, 7, 7], [0, 1, 5, 7]), ([8, 8, 0, 1, 2, 3, 4, 5, 6, 7, 8], [1, 8])])
def impl_CoverTree.B14 : List Nat := [0, 0, 0, 0, 12, 28, 0, 64, 255, 511]
theorem impl_CoverTree.tab14 : rtab .any (opsOf Try.f14 14) = impl_CoverTree.T14 := by kernel_rfl
theorem impl_CoverTree.bits14 : waitsOk impl_CoverTree.T14.2 impl_CoverTree.B14 = true := by kernel_rfl
set_option maxHeartbeats 8000000 in
set_option maxRecDepth 100000 in
theorem impl_CoverTree.calls (k : Nat) (A0_0 : Option Addr) (c0_0 : Nat) (l0_0 : List Int) (A0_1 : Option Addr) (c0_1 : Nat) (l0_1 : List Int) (a1 : Int) (P2_ : Nat → Prop) (A2 : Option Addr) (c2 : Nat) (l2 : List (List Int)) (r1 : List (List Int)) (r2 : Bool) (w : World) (hr0_0 : Kd.C (Kd.int .i64) w A0_0 l0_0.length l0_0) (hc0_0 : l0_0.length ≤ c0_0) (hr0_1 : Kd.C (Kd.int .i64) w A0_1 l0_1.length l0_1) (hc0_1 : l0_1.length ≤ c0_1) (hs2 : Kd.V (Kd.slice 3 (Kd.int .i64)) 23 w w.heap.size (fun k_ => P2_ k_) (.slice A2 l2.length c2) l2) (h : impl_CoverTree.f k l0_0 l0_1 a1 l2 = some (r1, r2)) :
    Calls Try.prog 14 #[.agg #[.slice A0_0 l0_0.length c0_0, .slice A0_1 l0_1.length c0_1], .int .i64 a1, .slice A2 l2.length c2] w fun e w' => ∃ v0_ : Value, e = .returned (.tuple #[v0_, .bool r2]) ∧ Kd.S (Kd.slice 3 (Kd.int .i64)) 23 w' w.heap.size (fun k_ => (w.heap.size ≤ k_)) v0_ r1 ∧ Below w.heap.size w w' := by
 have hu25 := Try.underlying25; have HR0_0 := A0_ hr0_0; have HC0_0 := A0_ hc0_0; clear hr0_0 hc0_0; have HR0_1 := A0_ hr0_1; have HC0_1 := A0_ hc0_1; clear hr0_1 hc0_1
 have HO2 := A0_ (show Kd.V (Kd.slice 3 (Kd.int .i64)) 23 w w.heap.size (fun k_ => (P2_ k_ ∨ w.heap.size ≤ k_)) (.slice A2 l2.length c2) l2 from Kd.V_mono hs2 (fun k_ hk => .inl hk))
 have HB := A0_ (Below.refl w.heap.size w)
 have H : ((impl_VoltageValid.f k l0_0 l0_1 a1 l2).bind fun t280 => (if t280 = true then ((impl_vertexOf.f k l0_0 l0_1).bind fun t281 => (if 0 ≤ (l0_0.length : Int) then (if ((l0_0.length : Int) : Int).toNat ≤ 281474976710656 then ((some (List.replicate ((l0_0.length : Int) : Int).toNat false : List Bool)).bind fun y284 => (if 0 < (t281.length : Int) then (if 0 ≤ (rd t281 0) then (if (rd t281 0) < (y284.length : Int) then ((impl_namesFrom.f k l0_0 l0_1 0).bind fun t289 => ((impl_back.f k t289).bind fun t292 => (impl_CoverTree.l0 k t281 (y284.set ((rd t281 0) : Int).toNat true) l2 t292 (t292.length : Int) 0 l0_0 l0_1))) else (none)) else (none)) else (none))) else (none)) else (none))) else (some (([] : List (List Int)), false)))) = some (r1, r2) := h
 clear h; obtain ⟨t280, A4, H⟩ := zbind H
 by_cases c5 : t280 = true
 ·subst c5
  have H1 : ((impl_vertexOf.f k l0_0 l0_1).bind fun t281 => (if 0 ≤ (l0_0.length : Int) then (if ((l0_0.length : Int) : Int).toNat ≤ 281474976710656 then ((some (List.replicate ((l0_0.length : Int) : Int).toNat false : List Bool)).bind fun y284 => (if 0 < (t281.length : Int) then (if 0 ≤ (rd t281 0) then (if (rd t281 0) < (y284.length : Int) then ((impl_namesFrom.f k l0_0 l0_1 0).bind fun t289 => ((impl_back.f k t289).bind fun t292 => (impl_CoverTree.l0 k t281 (y284.set ((rd t281 0) : Int).toNat true) l2 t292 (t292.length : Int) 0 l0_0 l0_1))) else (none)) else (none)) else (none))) else (none)) else (none))) = some (r1, r2) := by rw [if_pos rfl] at H; exact H
  clear H; have H := H1; clear H1; obtain ⟨t281, A6, H⟩ := zbind H
  by_cases c7 : 0 ≤ (l0_0.length : Int)
  ·rw [if_pos c7] at H
   have c7b0 := eq_true c7; have c7b1 := dT c7; clear c7
   by_cases c8 : ((l0_0.length : Int) : Int).toNat ≤ 281474976710656
   ·rw [if_pos c8] at H
    have c8b0 := eq_true c8; have c8b1 := dT c8; clear c8
    obtain ⟨y284, hy284⟩ : ∃ y_ : List Bool, y_ = (List.replicate ((l0_0.length : Int) : Int).toNat false) := ⟨_, rfl⟩
    replace H : (if 0 < (t281.length : Int) then (if 0 ≤ (rd t281 0) then (if (rd t281 0) < (y284.length : Int) then ((impl_namesFrom.f k l0_0 l0_1 0).bind fun t289 => ((impl_back.f k t289).bind fun t292 => (impl_CoverTree.l0 k t281 (y284.set ((rd t281 0) : Int).toNat true) l2 t292 (t292.length : Int) 0 l0_0 l0_1))) else (none)) else (none)) else (none)) = some (r1, r2) := zH hy284 H
    have Ny284 := A0_ hy284; clear hy284
    by_cases c9 : 0 < (t281.length : Int)
    ·rw [if_pos c9] at H
     have c9b0 := dT c9
     have c9b1 : decide (0 < t281.length) = true := dT (by omega)
     clear c9
     by_cases c10 : 0 ≤ (rd t281 0)
     ·rw [if_pos c10] at H
      have c10b0 := dT c10; clear c10
      by_cases c11 : (rd t281 0) < (y284.length : Int)
      ·rw [if_pos c11] at H
       have c11b0 := dT c11; clear c11
       obtain ⟨y288, hy288⟩ : ∃ y_ : List Bool, y_ = (y284.set ((rd t281 0) : Int).toNat true) := ⟨_, rfl⟩
       replace H : ((impl_namesFrom.f k l0_0 l0_1 0).bind fun t289 => ((impl_back.f k t289).bind fun t292 => (impl_CoverTree.l0 k t281 y288 l2 t292 (t292.length : Int) 0 l0_0 l0_1))) = some (r1, r2) := zH hy288 H
       have Ny288 := A0_ hy288; clear hy288; obtain ⟨t289, A13, H⟩ := zbind H; obtain ⟨t292, A14, H⟩ := zbind H; have H' := A0_ H; clear H
       go_enter Try.func14, Try.ntmps14
       go_wp2_with (first | ((with_reducible refine gD (N := 3) rfl ?_); refine zX (N := 3) (cs := #[.slice A0_0 l0_0.length c0_0, .slice A0_1 l0_1.length c0_1]) (t := 25) ?_; intro gb279 hg w15 hbox hb; replace HO2 := A0_ (Kd.V_below (Kd.V_elderB (by (with_reducible repeat (first | apply Kd.V_alloc | apply Kd.V_drewN | apply Kd.V_drew)); exact HO2.out) gb279 (Nat.le_of_eq hg.symm)) hb); have BK279 := A0_ (hbox); have GW279 := zG hg HB; have GE279 := zG hg HB; replace HB := zB HB hb; clear hb hbox hg; have hcz16_0 := zc0 BK279; have hcz16_1 := zc1 BK279; have hfz16_0 := kF BK279.out 0; have hfz16_1 := kF BK279.out 1) | ((with_reducible refine gC (f := 53) rfl ?_); refine zJ (some 18) Try.func53 #[.agg #[.slice A0_0 l0_0.length c0_0, .slice A0_1 l0_1.length c0_1], .int .i64 a1, .slice A2 l2.length c2] ?_; (with_reducible refine (impl_VoltageValid.calls k _ _ l0_0 _ _ l0_1 a1 _ _ l2 true _ ?side1 ?side2 ?side3 ?side4 ?side5 ?side6 A4.out).mono ?_); (case side1 => exact zC HR0_0 HB); (case side2 => exact HC0_0.out); (case side3 => exact zC HR0_1 HB); (case side4 => exact HC0_1.out); (case side5 => repeat (first | exact (Kd.V_reads' HO2.out).2.2 | (with_reducible refine cA ?_ _) | (with_reducible refine cN ?_ _) | (with_reducible refine cD ?_))); (case side6 => exact (Kd.V_reads' HO2.out).2.1); rintro e w17 ⟨rfl, hb⟩; refine ⟨_, rfl, ?_⟩; replace HO2 := A0_ (Kd.V_below (by (with_reducible repeat (first | apply Kd.V_alloc | apply Kd.V_drewN | apply Kd.V_drew)); exact HO2.out) hb); replace BK279 := zK BK279 hb; replace HB := zB HB hb; (try clear hb); have hcz18_0 := zc0 BK279; have hcz18_1 := zc1 BK279; have hfz18_0 := kF BK279.out 0; have hfz18_1 := kF BK279.out 1) | ((with_reducible refine gC (f := 59) rfl ?_); refine zJ (some 21) Try.func59 #[.agg #[.slice A0_0 l0_0.length c0_0, .slice A0_1 l0_1.length c0_1]] ?_; (with_reducible refine (impl_vertexOf.calls k _ _ l0_0 _ _ l0_1 t281 _ ?side1 ?side2 ?side3 ?side4 A6.out).mono ?_); (case side1 => exact zC HR0_0 HB); (case side2 => exact HC0_0.out); (case side3 => exact zC HR0_1 HB); (case side4 => exact HC0_1.out); rintro e w19 ⟨v282, rfl, ho0, hb⟩; refine ⟨_, rfl, ?_⟩; replace HO2 := A0_ (Kd.V_elder' (by (with_reducible repeat (first | apply Kd.V_alloc | apply Kd.V_drewN | apply Kd.V_drew)); exact HO2.out) (Kd.R_base ho0) hb); have HO283 := A0_ (rL (Kd.R_newM (M := fun k_ => (w.heap.size ≤ k_)) ho0 (bZ (zB_ HB)) (fun k_ h_ => h_)) (bZ (zB_ HB))); replace BK279 := zK BK279 hb; replace HB := zB HB hb; (try clear hb); (try clear ho0); have hcz20_0 := zc0 BK279; have hcz20_1 := zc1 BK279; have hfz20_0 := kF BK279.out 0; have hfz20_1 := kF BK279.out 1) | ((with_reducible refine gD (N := 25) rfl ?_); refine Kd.R_make Kd.bool _ 4 rfl (N := 25) rfl 60 _ _ rfl (l0_0.length : Int) rfl rfl Try.underlying60 (.bool false) 1 info4 rfl (by decide) (by omega) false (ok := fun _ => True) (okp := fun _ => True) rfl (fun _ hk => hk) trivial (zd) (Nat.le_trans (Nat.mul_le_mul_right _ (zd : (l0_0.length : Int).toNat ≤ 281474976710656)) (by omega)) (Below.refl _ _) (Nat.le_refl _) ?_; intro v285 w21 ho22 hb hg_ hnew_; clear hg_ hnew_; (first | rw [← Ny284.out] at ho22 | (simp only [Int.reduceToNat] at ho22; rw [← Ny284.out] at ho22)); replace HO2 := A0_ (Kd.V_elder' (by (with_reducible repeat (first | apply Kd.V_alloc | apply Kd.V_drewN | apply Kd.V_drew)); exact HO2.out) (Kd.R_base ho22) hb); replace HO283 := zR HO283 hb; have HO286 := A0_ (rL (Kd.R_newM (M := fun k_ => (w.heap.size ≤ k_)) ho22 (bZ (zB_ HB)) (fun k_ h_ => h_)) (bZ (zB_ HB))); replace BK279 := zK BK279 hb; replace HB := zB HB hb; clear hb ho22; obtain ⟨Ao23, co23, eo23⟩ := rS HO283.out; subst eo23; have p287 : 0 ≤ (0 : Int) := (by omega); have q287 : 0 < (t281.length : Int) := zd; obtain ⟨ad287, e287, hx287_0⟩ := tI (rR HO283.out).2.2 0 p287 q287; cases e287; have qi287 : (0 < t281.length) = True := eq_true (by omega); (try rw [show ((0 : Int)).toNat = 0 from rfl] at hx287_0); (try rw [Addr.add_zero'] at hx287_0); replace p287 := eq_true p287; replace q287 := eq_true q287; have p12 : 0 ≤ ((rd t281 0) : Int) := zd; have q12 : ((rd t281 0) : Int) < ((y284.length : Int) : Int) := zd; obtain ⟨go12, co12, eo12, gb12, gl12, cl12, HG12⟩ := Kd.R_form HO286.out (by omega); (first | cases eo12 | (injection eo12 with ea_ en_ ec_; (first | subst ea_ | (injection ea_ with ea_; subst ea_)); subst ec_; clear en_)); have GB12 := A0_ gb12; have GG12 := A0_ HG12; clear gb12 gl12 HG12; obtain ⟨hx12_0, hf12_0⟩ := Kd.R_celln false HO286.out ((rd t281 0) : Int) p12 q12; replace p12 := eq_true p12; replace q12 := eq_true q12; have n_ := A0_ (rM (ok' := (fun k_ => (w.heap.size ≤ k_))) HO286.out (fun k_ hk => hk.1)); clear HO286; have HO286 := n_; clear n_; obtain ⟨hy24_, hz24_⟩ := Kd.R_celln false HO286.out ((rd t281 0) : Int) (zd) (zd); have HP24 := Kd.R_putg HO286.out ((rd t281 0) : Int) true) | ((with_reducible refine gS (t := 4) (p := 30) rfl ?_); refine store_event (t := 4) (p := 30) (v := ?vo_w25) (w1 := (w21.setCell ⟨go12, ((rd t281 0) : Int).toNat, none⟩ (.bool true))) ?hg ?ho ?hn ?hr ?_; (case ho => rfl); (case hg => rfl); (case hn => rfl); (case hr => first | (go_simp; done) | (go_simp; rfl)); intro w25 hw; have hg : w21.grownBy w25 (some go12) := (by rw [hw]; exact HP24.2); have hp_ : Kd.R Kd.bool 4 w25 w.heap.size (fun k_ => (w.heap.size ≤ k_)) (.slice (some ⟨go12, 0, none⟩) y284.length co12) y288 := (by rw [hw, Ny288.out]; exact HP24.1); clear HP24; replace HO2 := A0_ (Kd.V_afterv (v := (.slice (some ⟨go12, 0, none⟩) y284.length co12)) (v1 := (.slice (some ⟨go12, 0, none⟩) y284.length co12)) (ok := (fun k_ => (P2_ k_ ∨ w.heap.size ≤ k_) ∧ some k_ ≠ (.slice (some ad287) t281.length co23 : Value).ownBlock ∧ k_ ≠ gb279)) (by (with_reducible repeat (first | apply Kd.V_alloc | apply Kd.V_drewN | apply Kd.V_drew)); exact Kd.V_mono HO2.out (fun _ hk => ⟨⟨hk.1.1.1, ⟨hk.1.2, hk.1.1.2⟩⟩, hk.2⟩)) hg (.inl rfl)); replace BK279 := A0_ (blk_grown (g := gb279) (o := .cells #[.slice A0_0 l0_0.length c0_0, .slice A0_1 l0_1.length c0_1] 25 (0, 0)) (zK_ BK279) hg (Kd.R_ne HO286.out BK279.out (by decide))); replace HO283 := A0_ (Kd.R_over' (v := (.slice (some ⟨go12, 0, none⟩) y284.length co12)) (zR_ HO283) (Kd.R_typed HO286.out) (by decide) hg); replace HO286 := A0_ (hp_); replace HB := A0_ ((by rw [hw]; exact bS (HB.out) GB12.out : Below w.heap.size w w25)); clear hg hw hp_; have hcz26_0 := zc0 BK279; have hcz26_1 := zc1 BK279; have hfz26_0 := kF BK279.out 0; have hfz26_1 := kF BK279.out 1) | ((with_reducible refine gC (f := 61) rfl ?_); refine zJ (some 33) Try.func61 #[.agg #[.slice A0_0 l0_0.length c0_0, .slice A0_1 l0_1.length c0_1], .int .i64 0] ?_; (with_reducible refine (impl_namesFrom.calls k _ _ l0_0 _ _ l0_1 0 t289 _ ?side1 ?side2 ?side3 ?side4 A13.out).mono ?_); (case side1 => exact zC HR0_0 HB); (case side2 => exact HC0_0.out); (case side3 => exact zC HR0_1 HB); (case side4 => exact HC0_1.out); rintro e w27 ⟨v290, rfl, ho0, hb⟩; refine ⟨_, rfl, ?_⟩; replace HO2 := A0_ (Kd.V_elder' (by (with_reducible repeat (first | apply Kd.V_alloc | apply Kd.V_drewN | apply Kd.V_drew)); exact HO2.out) (Kd.R_base ho0) hb); replace HO286 := zR HO286 hb; have HO291 := A0_ (rL (Kd.R_new' (Kd.R_newM (M := fun k_ => (w.heap.size ≤ k_)) ho0 (bZ (zB_ HB)) (fun k_ h_ => h_)) (rX (zR_ HO283))) (bZ (zB_ HB))); replace HO283 := A0_ (Kd.R_elder' (zR_ HO283) (Kd.R_base ho0) hb); replace BK279 := zK BK279 hb; replace HB := zB HB hb; (try clear hb); (try clear ho0); obtain ⟨Ao28, co28, eo28⟩ := rS HO291.out; subst eo28) | ((with_reducible refine gC (f := 60) rfl ?_); refine zJ (some 34) Try.func60 #[.slice Ao28 t289.length co28] ?_; (with_reducible refine (impl_back.calls k _ _ t289 t292 _ ?side1 ?side2 A14.out).mono ?_); (case side1 => exact zD HO291); (case side2 => exact (rR HO291.out).2.1); rintro e w29 ⟨v293, rfl, ho0, hb⟩; refine ⟨_, rfl, ?_⟩; replace HO2 := A0_ (Kd.V_elder' (by (with_reducible repeat (first | apply Kd.V_alloc | apply Kd.V_drewN | apply Kd.V_drew)); exact HO2.out) (Kd.R_base ho0) hb); replace HO286 := zR HO286 hb; have HO294 := A0_ (rL (Kd.R_new' (Kd.R_new' (Kd.R_newM (M := fun k_ => (w.heap.size ≤ k_)) ho0 (bZ (zB_ HB)) (fun k_ h_ => h_)) (rX (zR_ HO283))) (rX (zR_ HO291))) (bZ (zB_ HB))); replace HO283 := A0_ (Kd.R_elder' (zR_ HO283) (Kd.R_base ho0) hb); replace HO291 := A0_ (Kd.R_elder' (zR_ HO291) (Kd.R_base ho0) hb); replace BK279 := zK BK279 hb; replace HB := zB HB hb; (try clear hb); (try clear ho0); obtain ⟨Ao30, co30, eo30⟩ := rS HO294.out; subst eo30))
       go_loopg [10, 36] k (fun kq v10 v36 w' => ∃ (x9_1 : List Bool) (x10_1 : List (List Int)) (x36_1 : Int), v36 = .int .i64 x36_1 ∧ Aside0 (impl_CoverTree.l0 kq t281 x9_1 x10_1 t292 (t292.length : Int) x36_1 l0_0 l0_1 = some (r1, r2)) ∧ Aside0 (kq ≤ k) ∧ Aside0 (Kd.R (Kd.int .i64) 3 w' w.heap.size (fun k_ => (w.heap.size ≤ k_) ∧ some k_ ≠ ((.slice Ao30 t292.length co30) : Value).ownBlock) (.slice (some ad287) t281.length co23) t281) ∧ Aside0 (Kd.R Kd.bool 4 w' w.heap.size (fun k_ => (w.heap.size ≤ k_)) (.slice (some ⟨go12, 0, none⟩) y284.length co12) x9_1) ∧ Aside0 (Kd.V (Kd.slice 3 (Kd.int .i64)) 23 w' w.heap.size (fun k_ => (P2_ k_ ∨ w.heap.size ≤ k_) ∧ some k_ ≠ ((.slice (some ad287) t281.length co23) : Value).ownBlock ∧ some k_ ≠ ((.slice (some ⟨go12, 0, none⟩) y284.length co12) : Value).ownBlock ∧ some k_ ≠ ((.slice Ao30 t292.length co30) : Value).ownBlock ∧ k_ ≠ gb279) v10 x10_1) ∧ Aside0 (Kd.R (Kd.int .i64) 3 w' w.heap.size (fun k_ => (w.heap.size ≤ k_) ∧ some k_ ≠ ((.slice (some ad287) t281.length co23) : Value).ownBlock) (.slice Ao30 t292.length co30) t292) ∧ Aside0 (w'.heap[gb279]? = some (.cells #[(.slice A0_0 l0_0.length c0_0), (.slice A0_1 l0_1.length c0_1)] 25 (0, 0))) ∧ Aside0 (Below w.heap.size w w'))
       case atStart => exact ⟨(y288), (l2), (0), zt, H', ⟨Nat.le_refl _⟩, ⟨zmR HO283 (fun _ hk => ⟨hk.1.1.1, hk.2⟩)⟩, ⟨zR_ HO286⟩, ⟨by (with_reducible repeat (first | apply Kd.V_alloc | apply Kd.V_drewN | apply Kd.V_drew)); exact Kd.V_mono HO2.out (fun _ hk => ⟨hk.1.1.1.1, ⟨hk.1.1.1.2.1, ⟨hk.1.1.2, ⟨hk.2, hk.1.1.1.2.2⟩⟩⟩⟩)⟩, ⟨zmR HO294 (fun _ hk => ⟨hk.1.1.1, hk.1.2⟩)⟩, ⟨zK_ BK279⟩, ⟨zB_ HB⟩⟩
       case round =>
        clear H'; (try clear c1); (try clear p1); (try clear q1); (try clear hx1); (try clear c2); (try clear p2); (try clear q2); (try clear hx2); (try clear qi2); (try clear c5); (try clear c6); (try clear c7); (try clear c7b0); (try clear c7b1); (try clear c8); (try clear c8b0); (try clear c8b1); (try clear c9); (try clear c9b0); (try clear c9b1); (try clear c10); (try clear c10b0); (try clear c11); (try clear c11b0); (try clear p12); (try clear q12); (try clear hx12); (try clear hf12); (try clear c14); (try clear p28); (try clear q28); (try clear hx28); (try clear qi28); (try clear hcz16_0); (try clear hcz16_1); (try clear hcz18_0); (try clear hcz18_1); (try clear hcz20_0); (try clear hcz20_1); (try clear hcz26_0); (try clear hcz26_1); (try clear hfz16_0); (try clear hfz16_1); (try clear hfz18_0); (try clear hfz18_1); (try clear hfz20_0); (try clear hfz20_1); (try clear hfz26_0); (try clear hfz26_1); (try clear hx12_0); (try clear hx287_0); (try clear p12); (try clear p287); (try clear q12); (try clear q287); obtain ⟨x9_1, x10_1, x36_1, rfl, HA, HK1, HO_8, HO_9, HO_10, HO_34, BK279, HB⟩ := hrel; have hl9_1 := (rR HO_9.out).1; rw [hl9_1] at HO_9; (try simp only [hl9_1]); (try simp only [hl9_1] at BK279); (try simp only [hl9_1] at HO_8); (try simp only [hl9_1] at HO_10); (try simp only [hl9_1] at HO_34)
        cases gk with
        | zero => exact absurd HA.out (by simp [impl_CoverTree.l0])
        | succ k1 =>
         have H := HA.out; clear HA; simp only [impl_CoverTree.l0] at H
         by_cases c31 : x36_1 < (t292.length : Int)
         ·rw [if_pos c31] at H
          have c31b0 := dT c31; (try simp only [hl9_1] at c31b0); clear c31
          by_cases c32 : 0 ≤ x36_1
          ·rw [if_pos c32] at H
           have c32b0 := dT c32; clear c32
           by_cases c33 : x36_1 < (t292.length : Int)
           ·rw [if_pos c33] at H
            have c33b0 := dT c33; (try simp only [hl9_1] at c33b0); clear c33
            by_cases c34 : 0 ≤ (rd t292 x36_1)
            ·rw [if_pos c34] at H
             have c34b0 := dT c34; clear c34
             by_cases c35 : (rd t292 x36_1) < (l0_1.length : Int)
             ·rw [if_pos c35] at H
              have c35b0 := dT c35; (try simp only [hl9_1] at c35b0); clear c35; have HC36 := A0_ H; clear H
              have p298 : 0 ≤ (x36_1 : Int) := zd
              have q298 : x36_1 < (t292.length : Int) := zd
              obtain ⟨ad298, e298, hx298_0⟩ := tI (rR HO_34.out).2.2 x36_1 p298 q298
              cases e298
              replace p298 := eq_true p298; replace q298 := eq_true q298; have hcz37_0 := zc0 BK279; have hcz37_1 := zc1 BK279; have hfz37_0 := kF BK279.out 0; have hfz37_1 := kF BK279.out 1
              have p299 : 0 ≤ ((rd t292 x36_1) : Int) := zd
              have q299 : (rd t292 x36_1) < (l0_1.length : Int) := zd
              obtain ⟨ad299, e299, hx299_0⟩ := tI HR0_1.out (rd t292 x36_1) p299 q299
              cases e299
              try replace hx299_0 := (HB.out.cell (wL w _ hx299_0)).trans hx299_0
              replace p299 := eq_true p299; replace q299 := eq_true q299
              go_upto_region 11 with (fail)
              go_cut [61] (fun v61 wc => ∃ (kq : Nat) (x61_35 : Bool), v61 = .bool x61_35 ∧ Aside0 (impl_CoverTree.j1 kq t281 x9_1 x10_1 (rd t292 x36_1) (rd l0_1 (rd t292 x36_1)) t292 (t292.length : Int) x36_1 x61_35 l0_0 l0_1 = some (r1, r2)) ∧ Aside0 (kq ≤ k1) ∧ Aside0 (Kd.R (Kd.int .i64) 3 wc w.heap.size (fun k_ => (w.heap.size ≤ k_) ∧ some k_ ≠ ((.slice (some ad298) t292.length co30) : Value).ownBlock) (.slice (some ad287) t281.length co23) t281) ∧ Aside0 (Kd.R Kd.bool 4 wc w.heap.size (fun k_ => (w.heap.size ≤ k_)) (.slice (some ⟨go12, 0, none⟩) x9_1.length co12) x9_1) ∧ Aside0 (Kd.V (Kd.slice 3 (Kd.int .i64)) 23 wc w.heap.size (fun k_ => (P2_ k_ ∨ w.heap.size ≤ k_) ∧ some k_ ≠ ((.slice (some ad287) t281.length co23) : Value).ownBlock ∧ some k_ ≠ ((.slice (some ⟨go12, 0, none⟩) x9_1.length co12) : Value).ownBlock ∧ some k_ ≠ ((.slice (some ad298) t292.length co30) : Value).ownBlock ∧ k_ ≠ gb279) u10 x10_1) ∧ Aside0 (Kd.R (Kd.int .i64) 3 wc w.heap.size (fun k_ => (w.heap.size ≤ k_) ∧ some k_ ≠ ((.slice (some ad287) t281.length co23) : Value).ownBlock) (.slice (some ad298) t292.length co30) t292) ∧ Aside0 (wc.heap[gb279]? = some (.cells #[(.slice A0_0 l0_0.length c0_0), (.slice (some ad299) l0_1.length c0_1)] 25 (0, 0))) ∧ Aside0 (Below w.heap.size w wc))
              case first =>
               have H := HC36.out; clear HC36
               by_cases c38 : (rd t292 x36_1) < (t281.length : Int)
               ·rw [if_pos c38] at H
                have c38b0 := dT c38; (try simp only [hl9_1] at c38b0); clear c38
                (first | rw [c38b0] | (simp only [i64_w, i32_w]; rw [c38b0]) | skip)
                by_cases c39 : 0 ≤ (rd t281 (rd t292 x36_1))
                ·rw [if_pos c39] at H
                 have c39b0 := dT c39; clear c39
                 by_cases c40 : (rd t281 (rd t292 x36_1)) < (x9_1.length : Int)
                 ·rw [if_pos c40] at H
                  have c40b0 := dT c40; (try simp only [hl9_1] at c40b0); clear c40
                  obtain ⟨bq41, hbq41⟩ : ∃ b_ : Bool, b_ = (rdOf false x9_1 (rd t281 (rd t292 x36_1))) := ⟨_, rfl⟩
                  replace H : (if (bq41 = true) then (if 0 ≤ (rd l0_1 (rd t292 x36_1)) then (if (rd l0_1 (rd t292 x36_1)) < (t281.length : Int) then (if 0 ≤ (rd t281 (rd l0_1 (rd t292 x36_1))) then (if (rd t281 (rd l0_1 (rd t292 x36_1))) < (x9_1.length : Int) then (impl_CoverTree.j1 k1 t281 x9_1 x10_1 (rd t292 x36_1) (rd l0_1 (rd t292 x36_1)) t292 (t292.length : Int) x36_1 (rdOf false x9_1 (rd t281 (rd l0_1 (rd t292 x36_1)))) l0_0 l0_1) else (none)) else (none)) else (none)) else (none)) else (impl_CoverTree.j1 k1 t281 x9_1 x10_1 (rd t292 x36_1) (rd l0_1 (rd t292 x36_1)) t292 (t292.length : Int) x36_1 true l0_0 l0_1)) = some (r1, r2) := by rw [← hbq41] at H; exact H
                  have Nbq41 := A0_ hbq41; clear hbq41
                  by_cases c42 : (bq41 = true)
                  ·subst c42
                   have H1 : (if 0 ≤ (rd l0_1 (rd t292 x36_1)) then (if (rd l0_1 (rd t292 x36_1)) < (t281.length : Int) then (if 0 ≤ (rd t281 (rd l0_1 (rd t292 x36_1))) then (if (rd t281 (rd l0_1 (rd t292 x36_1))) < (x9_1.length : Int) then (impl_CoverTree.j1 k1 t281 x9_1 x10_1 (rd t292 x36_1) (rd l0_1 (rd t292 x36_1)) t292 (t292.length : Int) x36_1 (rdOf false x9_1 (rd t281 (rd l0_1 (rd t292 x36_1)))) l0_0 l0_1) else (none)) else (none)) else (none)) else (none)) = some (r1, r2) := by rw [if_pos rfl] at H; exact H
                   clear H; have H := H1; clear H1
                   by_cases c43 : 0 ≤ (rd l0_1 (rd t292 x36_1))
                   ·rw [if_pos c43] at H
                    have c43b0 := dT c43; clear c43
                    by_cases c44 : (rd l0_1 (rd t292 x36_1)) < (t281.length : Int)
                    ·rw [if_pos c44] at H
                     have c44b0 := dT c44; (try simp only [hl9_1] at c44b0); clear c44
                     by_cases c45 : 0 ≤ (rd t281 (rd l0_1 (rd t292 x36_1)))
                     ·rw [if_pos c45] at H
                      have c45b0 := dT c45; clear c45
                      by_cases c46 : (rd t281 (rd l0_1 (rd t292 x36_1))) < (x9_1.length : Int)
                      ·rw [if_pos c46] at H
                       have c46b0 := dT c46; (try simp only [hl9_1] at c46b0); clear c46; have H' := A0_ H; clear H
                       have p300 : 0 ≤ ((rd t292 x36_1) : Int) := zd
                       have q300 : (rd t292 x36_1) < (t281.length : Int) := zd
                       obtain ⟨ad300, e300, hx300_0⟩ := tI (rR HO_8.out).2.2 (rd t292 x36_1) p300 q300
                       obtain rfl : ad287 = ad300 := (by injection e300)
                       replace p300 := eq_true p300; replace q300 := eq_true q300
                       have p301 : 0 ≤ ((rd t281 (rd t292 x36_1)) : Int) := zd
                       have q301 : (rd t281 (rd t292 x36_1)) < (x9_1.length : Int) := zd
                       obtain ⟨ad301, e301, hx301_0⟩ := Kd.at_bool (rR HO_9.out).2.2 (rd t281 (rd t292 x36_1)) p301 q301
                       (try rw [← Nbq41.out] at hx301_0)
                       obtain rfl : (⟨go12, 0, none⟩ : Addr) = ad301 := (by injection e301)
                       (first | simp only [add_plain] at hx301_0 | simp only [add_at] at hx301_0 | simp only [Addr.add, Nat.zero_add] at hx301_0 | skip)
                       replace p301 := eq_true p301; replace q301 := eq_true q301
                       have p302 : 0 ≤ ((rd l0_1 (rd t292 x36_1)) : Int) := zd
                       have q302 : (rd l0_1 (rd t292 x36_1)) < (t281.length : Int) := zd
                       obtain ⟨ad302, e302, hx302_0⟩ := tI (rR HO_8.out).2.2 (rd l0_1 (rd t292 x36_1)) p302 q302
                       obtain rfl : ad287 = ad302 := (by injection e302)
                       replace p302 := eq_true p302; replace q302 := eq_true q302
                       have p303 : 0 ≤ ((rd t281 (rd l0_1 (rd t292 x36_1))) : Int) := zd
                       have q303 : (rd t281 (rd l0_1 (rd t292 x36_1))) < (x9_1.length : Int) := zd
                       obtain ⟨ad303, e303, hx303_0⟩ := Kd.at_bool (rR HO_9.out).2.2 (rd t281 (rd l0_1 (rd t292 x36_1))) p303 q303
                       (try rw [← Nbq41.out] at hx303_0)
                       obtain rfl : (⟨go12, 0, none⟩ : Addr) = ad303 := (by injection e303)
                       (first | simp only [add_plain] at hx303_0 | simp only [add_at] at hx303_0 | simp only [Addr.add, Nat.zero_add] at hx303_0 | skip)
                       replace p303 := eq_true p303; replace q303 := eq_true q303
                       go_wp2
                       go_meet
                       case rel => exact ⟨_, (rdOf false x9_1 (rd t281 (rd l0_1 (rd t292 x36_1)))), zt, H', ⟨by have := HK1.out; first | omega | exact Nat.le_refl _⟩, ⟨by (try simp only [hl9_1]); (with_reducible repeat (first | apply rA | apply rN | apply rD)); exact HO_8.out⟩, ⟨by (try simp only [hl9_1]); (with_reducible repeat (first | apply rA | apply rN | apply rD)); exact HO_9.out⟩, ⟨by (try simp only [hl9_1]); (with_reducible repeat (first | apply Kd.V_alloc | apply Kd.V_drewN | apply Kd.V_drew)); exact HO_10.out⟩, ⟨by (try simp only [hl9_1]); (with_reducible repeat (first | apply rA | apply rN | apply rD)); exact HO_34.out⟩, ⟨by (try simp only [hl9_1]); (with_reducible repeat (first | refine kN ?_ _ | refine kD ?_ | refine kA ?_ _)); exact BK279.out⟩, ⟨zB_ HB⟩⟩
                      rw [if_neg c46] at H
                      exact absurd H (by simp)
                     rw [if_neg c45] at H
                     exact absurd H (by simp)
                    rw [if_neg c44] at H
                    exact absurd H (by simp)
                   rw [if_neg c43] at H
                   exact absurd H (by simp)
                  replace c42 := Bool.eq_false_iff.mpr c42; subst c42
                  have H1 : (impl_CoverTree.j1 k1 t281 x9_1 x10_1 (rd t292 x36_1) (rd l0_1 (rd t292 x36_1)) t292 (t292.length : Int) x36_1 true l0_0 l0_1) = some (r1, r2) := by rw [if_neg (show ¬ (false = true) by decide)] at H; exact H
                  clear H; have H := H1; clear H1; have H' := A0_ H; clear H
                  have p300 : 0 ≤ ((rd t292 x36_1) : Int) := zd
                  have q300 : (rd t292 x36_1) < (t281.length : Int) := zd
                  obtain ⟨ad300, e300, hx300_0⟩ := tI (rR HO_8.out).2.2 (rd t292 x36_1) p300 q300
                  obtain rfl : ad287 = ad300 := (by injection e300)
                  replace p300 := eq_true p300; replace q300 := eq_true q300
                  have p301 : 0 ≤ ((rd t281 (rd t292 x36_1)) : Int) := zd
                  have q301 : (rd t281 (rd t292 x36_1)) < (x9_1.length : Int) := zd
                  obtain ⟨ad301, e301, hx301_0⟩ := Kd.at_bool (rR HO_9.out).2.2 (rd t281 (rd t292 x36_1)) p301 q301
                  (try rw [← Nbq41.out] at hx301_0)
                  obtain rfl : (⟨go12, 0, none⟩ : Addr) = ad301 := (by injection e301)
                  (first | simp only [add_plain] at hx301_0 | simp only [add_at] at hx301_0 | simp only [Addr.add, Nat.zero_add] at hx301_0 | skip)
                  replace p301 := eq_true p301; replace q301 := eq_true q301
                  go_wp2
                  go_meet
                  case rel => exact ⟨_, (true), zt, H', ⟨by have := HK1.out; first | omega | exact Nat.le_refl _⟩, ⟨by (try simp only [hl9_1]); (with_reducible repeat (first | apply rA | apply rN | apply rD)); exact HO_8.out⟩, ⟨by (try simp only [hl9_1]); (with_reducible repeat (first | apply rA | apply rN | apply rD)); exact HO_9.out⟩, ⟨by (try simp only [hl9_1]); (with_reducible repeat (first | apply Kd.V_alloc | apply Kd.V_drewN | apply Kd.V_drew)); exact HO_10.out⟩, ⟨by (try simp only [hl9_1]); (with_reducible repeat (first | apply rA | apply rN | apply rD)); exact HO_34.out⟩, ⟨by (try simp only [hl9_1]); (with_reducible repeat (first | refine kN ?_ _ | refine kD ?_ | refine kA ?_ _)); exact BK279.out⟩, ⟨zB_ HB⟩⟩
                 rw [if_neg c40] at H
                 exact absurd H (by simp)
                rw [if_neg c39] at H
                exact absurd H (by simp)
               rw [if_neg c38] at H
               exact absurd H (by simp)
              case rest =>
               clear HC36; (try clear c1); (try clear p1); (try clear q1); (try clear hx1); (try clear c2); (try clear p2); (try clear q2); (try clear hx2); (try clear qi2); (try clear c3); (try clear p3); (try clear q3); (try clear hx3); (try clear c4); (try clear q4); (try clear c5); (try clear c6); (try clear c7); (try clear c7b0); (try clear c7b1); (try clear c8); (try clear c8b0); (try clear c8b1); (try clear c9); (try clear c9b0); (try clear c9b1); (try clear c10); (try clear c10b0); (try clear c11); (try clear c11b0); (try clear p12); (try clear q12); (try clear hx12); (try clear hf12); (try clear c14); (try clear p28); (try clear q28); (try clear hx28); (try clear qi28); (try clear p29); (try clear q29); (try clear hx29); (try clear p30); (try clear q30); (try clear hx30); (try clear c31); (try clear c31b0); (try clear c32); (try clear c32b0); (try clear c33); (try clear c33b0); (try clear c34); (try clear c34b0); (try clear c35); (try clear c35b0); (try clear c38); (try clear c38b0); (try clear c39); (try clear c39b0); (try clear c40); (try clear c40b0); (try clear q41); (try clear c42); (try clear c43); (try clear c43b0); (try clear c44); (try clear c44b0); (try clear c45); (try clear c45b0); (try clear c46); (try clear c46b0); (try clear hcz16_0); (try clear hcz16_1); (try clear hcz18_0); (try clear hcz18_1); (try clear hcz20_0); (try clear hcz20_1); (try clear hcz26_0); (try clear hcz26_1); (try clear hcz37_0); (try clear hcz37_1); (try clear hfz16_0); (try clear hfz16_1); (try clear hfz18_0); (try clear hfz18_1); (try clear hfz20_0); (try clear hfz20_1); (try clear hfz26_0); (try clear hfz26_1); (try clear hfz37_0); (try clear hfz37_1); (try clear hx12_0); (try clear hx287_0); (try clear hx298_0); (try clear hx299_0); (try clear hx300_0); (try clear hx301_0); (try clear hx302_0); (try clear hx303_0); (try clear p1); (try clear p12); (try clear p2); (try clear p28); (try clear p287); (try clear p298); (try clear p299); (try clear p300); (try clear p301); (try clear p302); (try clear p303); (try clear q1); (try clear q12); (try clear q2); (try clear q28); (try clear q287); (try clear q298); (try clear q299); (try clear q300); (try clear q301); (try clear q302); (try clear q303); obtain ⟨kq, x61_35, rfl, HA, HJ35, HO_8, HO_9, HO_10, HO_34, BK279, HB⟩ := hcut
               cases kq with
               | zero => exact absurd HA.out (by simp [impl_CoverTree.j1])
               | succ kj35 =>
                have H := HA.out; clear HA; simp only [impl_CoverTree.j1] at H
                by_cases c47 : x61_35 = true
                ·subst c47
                 have H1 : (impl_CoverTree.l0 kj35 t281 x9_1 x10_1 t292 (t292.length : Int) (wrap64 (x36_1 + 1)) l0_0 l0_1) = some (r1, r2) := by rw [if_pos rfl] at H; exact H
                 clear H; have H := H1; clear H1; have H' := A0_ H; clear H
                 go_wp2
                 (try simp only [← hl9_1])
                 go_roundg kj35
                 case measure => have := HK1.out; have := HJ35.out; omega
                 case rel => exact ⟨(x9_1), (x10_1), (wrap64 (x36_1 + 1)), zt, H', ⟨by have := HK1.out; have := HJ35.out; omega⟩, ⟨by (try simp only [hl9_1]); (with_reducible repeat (first | apply rA | apply rN | apply rD)); exact HO_8.out⟩, ⟨by (try simp only [hl9_1]); (with_reducible repeat (first | apply rA | apply rN | apply rD)); exact HO_9.out⟩, ⟨by (try simp only [hl9_1]); (with_reducible repeat (first | apply Kd.V_alloc | apply Kd.V_drewN | apply Kd.V_drew)); exact HO_10.out⟩, ⟨by (try simp only [hl9_1]); (with_reducible repeat (first | apply rA | apply rN | apply rD)); exact HO_34.out⟩, ⟨by (try simp only [hl9_1]); (with_reducible repeat (first | refine kN ?_ _ | refine kD ?_ | refine kA ?_ _)); exact BK279.out⟩, ⟨zB_ HB⟩⟩
                replace c47 := Bool.eq_false_iff.mpr c47; subst c47
                have H1 : (if 0 ≤ (rd l0_1 (rd t292 x36_1)) then (if (rd l0_1 (rd t292 x36_1)) < (t281.length : Int) then (if 0 ≤ (rd t281 (rd l0_1 (rd t292 x36_1))) then (if (rd t281 (rd l0_1 (rd t292 x36_1))) < (x9_1.length : Int) then ((impl_along.f kj35 l0_0 l0_1 x10_1 (rd t292 x36_1)).bind fun t306 => ((impl_back.f kj35 t306).bind fun t310 => ((impl_conjAt.f kj35 l0_0 l0_1 x10_1 (rd t281 (rd l0_1 (rd t292 x36_1))) t310).bind fun t313 => (impl_CoverTree.l0 kj35 t281 (x9_1.set ((rd t281 (rd l0_1 (rd t292 x36_1))) : Int).toNat true) t313 t292 (t292.length : Int) (wrap64 (x36_1 + 1)) l0_0 l0_1)))) else (none)) else (none)) else (none)) else (none)) = some (r1, r2) := by rw [if_neg (show ¬ (false = true) by decide)] at H; exact H
                clear H; have H := H1; clear H1
                by_cases c48 : 0 ≤ (rd l0_1 (rd t292 x36_1))
                ·rw [if_pos c48] at H
                 have c48b0 := dT c48; clear c48
                 by_cases c49 : (rd l0_1 (rd t292 x36_1)) < (t281.length : Int)
                 ·rw [if_pos c49] at H
                  have c49b0 := dT c49; (try simp only [hl9_1] at c49b0); clear c49
                  by_cases c50 : 0 ≤ (rd t281 (rd l0_1 (rd t292 x36_1)))
                  ·rw [if_pos c50] at H
                   have c50b0 := dT c50; clear c50
                   by_cases c51 : (rd t281 (rd l0_1 (rd t292 x36_1))) < (x9_1.length : Int)
                   ·rw [if_pos c51] at H
                    have c51b0 := dT c51; (try simp only [hl9_1] at c51b0); clear c51
                    obtain ⟨y305, hy305⟩ : ∃ y_ : List Bool, y_ = (x9_1.set ((rd t281 (rd l0_1 (rd t292 x36_1))) : Int).toNat true) := ⟨_, rfl⟩
                    replace H : ((impl_along.f kj35 l0_0 l0_1 x10_1 (rd t292 x36_1)).bind fun t306 => ((impl_back.f kj35 t306).bind fun t310 => ((impl_conjAt.f kj35 l0_0 l0_1 x10_1 (rd t281 (rd l0_1 (rd t292 x36_1))) t310).bind fun t313 => (impl_CoverTree.l0 kj35 t281 y305 t313 t292 (t292.length : Int) (wrap64 (x36_1 + 1)) l0_0 l0_1)))) = some (r1, r2) := zH hy305 H
                    have Ny305 := A0_ hy305; clear hy305; obtain ⟨t306, A53, H⟩ := zbind H; obtain ⟨t310, A54, H⟩ := zbind H; obtain ⟨t313, A55, H⟩ := zbind H; have H' := A0_ H; clear H
                    have p304 : 0 ≤ ((rd l0_1 (rd t292 x36_1)) : Int) := zd
                    have q304 : (rd l0_1 (rd t292 x36_1)) < (t281.length : Int) := zd
                    obtain ⟨ad304, e304, hx304_0⟩ := tI (rR HO_8.out).2.2 (rd l0_1 (rd t292 x36_1)) p304 q304
                    obtain rfl : ad287 = ad304 := (by injection e304)
                    replace p304 := eq_true p304; replace q304 := eq_true q304
                    have p52 : 0 ≤ ((rd t281 (rd l0_1 (rd t292 x36_1))) : Int) := zd
                    have q52 : ((rd t281 (rd l0_1 (rd t292 x36_1))) : Int) < ((x9_1.length : Int) : Int) := zd
                    obtain ⟨hx52_0, hf52_0⟩ := Kd.R_celln false HO_9.out ((rd t281 (rd l0_1 (rd t292 x36_1))) : Int) p52 q52
                    replace p52 := eq_true p52; replace q52 := eq_true q52
                    have HP56 := Kd.R_putg HO_9.out ((rd t281 (rd l0_1 (rd t292 x36_1))) : Int) true
                    try go_wp2_with (first | ((with_reducible refine gS (t := 4) (p := 67) rfl ?_); refine store_event (t := 4) (p := 67) (v := ?vo_w57) (w1 := (wc.setCell ⟨go12, ((rd t281 (rd l0_1 (rd t292 x36_1))) : Int).toNat, none⟩ (.bool true))) ?hg ?ho ?hn ?hr ?_; (case ho => rfl); (case hg => rfl); (case hn => rfl); (case hr => first | (go_simp; done) | (go_simp; rfl)); intro w57 hw; have hg : wc.grownBy w57 (some go12) := (by rw [hw]; exact HP56.2); have hp_ : Kd.R Kd.bool 4 w57 w.heap.size (fun k_ => (w.heap.size ≤ k_)) (.slice (some ⟨go12, 0, none⟩) x9_1.length co12) y305 := (by rw [hw, Ny305.out]; exact HP56.1); clear HP56; replace HO_8 := A0_ (Kd.R_over' (v := (.slice (some ⟨go12, 0, none⟩) x9_1.length co12)) (zR_ HO_8) (Kd.R_typed HO_9.out) (by decide) hg); replace HO_10 := A0_ (Kd.V_afterv (v := (.slice (some ⟨go12, 0, none⟩) x9_1.length co12)) (v1 := (.slice (some ⟨go12, 0, none⟩) x9_1.length co12)) (ok := (fun k_ => (P2_ k_ ∨ w.heap.size ≤ k_) ∧ some k_ ≠ (.slice (some ad287) t281.length co23 : Value).ownBlock ∧ some k_ ≠ (.slice (some ad298) t292.length co30 : Value).ownBlock ∧ k_ ≠ gb279)) (by (with_reducible repeat (first | apply Kd.V_alloc | apply Kd.V_drewN | apply Kd.V_drew)); exact Kd.V_mono HO_10.out (fun _ hk => ⟨⟨hk.1, ⟨hk.2.1, ⟨hk.2.2.2.1, hk.2.2.2.2⟩⟩⟩, hk.2.2.1⟩)) hg (.inl rfl)); replace HO_34 := A0_ (Kd.R_over' (v := (.slice (some ⟨go12, 0, none⟩) x9_1.length co12)) (zR_ HO_34) (Kd.R_typed HO_9.out) (by decide) hg); replace BK279 := A0_ (blk_grown (g := gb279) (o := .cells #[.slice A0_0 l0_0.length c0_0, .slice (some ad299) l0_1.length c0_1] 25 (0, 0)) (zK_ BK279) hg (Kd.R_ne HO_9.out BK279.out (by decide))); replace HO_9 := A0_ (hp_); replace HB := A0_ ((by rw [hw]; exact bS (HB.out) GB12.out : Below w.heap.size w w57)); clear hg hw hp_; have hcz58_0 := zc0 BK279; have hcz58_1 := zc1 BK279; have hfz58_0 := kF BK279.out 0; have hfz58_1 := kF BK279.out 1; obtain ⟨Ao59, co59, eo59⟩ := Kd.V_slice HO_10.out; subst eo59) | ((with_reducible refine gC (f := 62) rfl ?_); refine zJ (some 71) Try.func62 #[.agg #[.slice A0_0 l0_0.length c0_0, .slice (some ad299) l0_1.length c0_1], .slice Ao59 x10_1.length co59, .int .i64 (rd t292 x36_1)] ?_; (with_reducible refine (impl_along.calls kj35 _ _ l0_0 _ _ l0_1 (fun k_ => (((P2_ k_ ∨ w.heap.size ≤ k_) ∧ (some k_ ≠ (.slice (some ad287) t281.length co23 : Value).ownBlock ∧ (some k_ ≠ (.slice (some ad298) t292.length co30 : Value).ownBlock ∧ k_ ≠ gb279))) ∧ some k_ ≠ (.slice (some ⟨go12, 0, none⟩) x9_1.length co12 : Value).ownBlock)) _ _ x10_1 (rd t292 x36_1) t306 _ ?side1 ?side2 ?side3 ?side4 ?side5 A53.out).mono ?_); (case side1 => exact zC HR0_0 HB); (case side2 => exact HC0_0.out); (case side3 => exact zC HR0_1 HB); (case side4 => exact HC0_1.out); (case side5 => exact HO_10.out); rintro e w60 ⟨v307, rfl, ho0, hb⟩; refine ⟨_, rfl, ?_⟩; replace HO_10 := A0_ (Kd.V_below (by (with_reducible repeat (first | apply Kd.V_alloc | apply Kd.V_drewN | apply Kd.V_drew)); exact HO_10.out) hb); have HO308 := A0_ (Kd.V_lower (Kd.V_mono (ok' := fun k_ => (P2_ k_ ∨ w.heap.size ≤ k_) ∧ some k_ ≠ (.slice (some ad287) t281.length co23 : Value).ownBlock ∧ some k_ ≠ (.slice (some ⟨go12, 0, none⟩) x9_1.length co12 : Value).ownBlock ∧ some k_ ≠ (.slice (some ad298) t292.length co30 : Value).ownBlock ∧ k_ ≠ gb279) ho0 (fun k_ hk_ => ⟨Or.elim hk_ (fun hs_ => hs_.1.1) (fun hn_ => (.inr (Nat.le_trans (bZ (zB_ HB)) hn_))), Or.elim hk_ (fun hs_ => hs_.1.2.1) (fun hn_ => (Kd.fresh' (rX (zR_ HO_8)) k_ hn_)), Or.elim hk_ (fun hs_ => hs_.2) (fun hn_ => (Kd.fresh' (rX (zR_ HO_9)) k_ hn_)), Or.elim hk_ (fun hs_ => hs_.1.2.2.1) (fun hn_ => (Kd.fresh' (rX (zR_ HO_34)) k_ hn_)), Or.elim hk_ (fun hs_ => hs_.1.2.2.2) (fun hn_ => (Kd.freshB (g := gb279) (o := .cells #[.slice A0_0 l0_0.length c0_0, .slice (some ad299) l0_1.length c0_1] 25 (0, 0)) (zK_ BK279) k_ hn_))⟩)) (bZ (zB_ HB))); replace HO_8 := zR HO_8 hb; replace HO_9 := zR HO_9 hb; replace HO_34 := zR HO_34 hb; replace BK279 := zK BK279 hb; replace HB := zB HB hb; (try clear hb); (try clear ho0)))
                    replace HO_8 := A0_ (rD HO_8.out)
                    replace HO_9 := A0_ (rD HO_9.out)
                    replace HO_10 := A0_ (Kd.V_drew HO_10.out)
                    replace HO_34 := A0_ (rD HO_34.out)
                    replace HO308 := A0_ (Kd.V_drew HO308.out)
                    replace BK279 := A0_ (kD BK279.out)
                    replace HB := A0_ (bD HB.out)
                    have p309 : 0 ≤ ((rd l0_1 (rd t292 x36_1)) : Int) := zd
                    have q309 : (rd l0_1 (rd t292 x36_1)) < (t281.length : Int) := zd
                    obtain ⟨ad309, e309, hx309_0⟩ := tI (rR HO_8.out).2.2 (rd l0_1 (rd t292 x36_1)) p309 q309
                    obtain rfl : ad287 = ad309 := (by injection e309)
                    replace p309 := eq_true p309; replace q309 := eq_true q309; obtain ⟨Ao62, co62, eo62⟩ := Kd.V_slice HO308.out
                    (first | subst eo62 | (injection eo62 with f1_ f2_ f3_; have f4_ := f1_.symm; have f5_ := f3_.symm; clear f1_ f2_ f3_; subst f4_; subst f5_))
                    refine start_ (n := 10) (S := fun w' => w'.cell? ⟨gb279, 0, none⟩ = some (.slice A0_0 l0_0.length c0_0) ∧ w'.cell? ⟨gb279, 1, none⟩ = some (.slice (some ad299) l0_1.length c0_1) ∧ w'.cell? (ad287.add ((rd l0_1 (rd t292 x36_1))).toNat) = some (.int .i64 (rd t281 (rd l0_1 (rd t292 x36_1))))) (ds := []) #[false, false, false, false, false, false, false, false, false, false] (by kernel_rfl) rfl rfl ⟨(kC BK279.out 0).trans rfl, (kC BK279.out 1).trans rfl, hx309_0⟩ (fun hHeld => ?_); refine with_tabW impl_CoverTree.tab14 impl_CoverTree.bits14 (fun HT_ HW_ => ?_)
                    generalize w60.drew = w61 at HO_8 HO_9 HO_10 HO_34 HO308 BK279 HB hx309_0 hHeld ⊢
                    refine zP 1 (some 73) #[false,true,false,false,false,false,false,false,false,false] ?_
                    refine zP 2 (some 74) #[false,true,true,false,false,false,false,false,false,false] ?_
                    refine zP 3 (some 75) #[false,true,true,true,false,false,false,false,false,false] ?_
                    refine zP 4 (some 76) #[false,true,true,true,true,false,false,false,false,false] ?_
                    refine zP 6 (some 78) #[false,true,true,true,true,false,true,false,false,false] ?_
                    refine take_ (i := 0) (N := some 72) (v := ?_) (a' := ?_) #[true, true, true, true, true, false, true, false, false, false] rfl rfl (take_ofW HT_.out HW_.out (by kernel_rfl)) (fun _ _ _ h => h) (Or.inl ⟨by rfl, ?_⟩) hHeld ?_ ?_
                    rotate_left
                    ·rintro w' ⟨s0, s1, s2⟩
                     go_simp
                     with_reducible rfl
                    rotate_left
                    ·simp only [Act.put, List.setIfInBounds_toArray, List.set_cons_zero, List.set_cons_succ, i64_w, i32_w]
                     rfl
                    refine take_ (i := 5) (N := some 77) (v := ?_) (a' := ?_) #[true, true, true, true, true, true, true, false, false, false] rfl rfl (take_ofW HT_.out HW_.out (by kernel_rfl)) (fun _ _ _ h => h) (Or.inl ⟨by rfl, ?_⟩) hHeld ?_ ?_
                    rotate_left
                    ·rintro w' ⟨s0, s1, s2⟩
                     go_simp
                     with_reducible rfl
                    rotate_left
                    ·simp only [Act.put, List.setIfInBounds_toArray, List.set_cons_zero, List.set_cons_succ, i64_w, i32_w]
                     rfl
                    refine one_ (i := 7) (N := some 79) #[true, true, true, true, true, true, true, true, false, false] rfl rfl (one_of HT_.out (by kernel_rfl)) (by decide) (fun K hK => ?_)
                    refine goes_ Try.func60 (by kernel_rfl) rfl #[.slice Ao62 t306.length co62] (by rfl) rfl rfl (by (try simp only [List.map_toArray, List.map_cons, List.map_nil]); first | done | rfl | (simp only [List.length_drop, List.length_take]; rfl)) ?_
                    with_reducible refine (impl_back.calls kj35 _ _ t306 t310 _ ?side1 ?side2 A54.out).mono ?_
                    (case side1 => repeat (first | exact (Kd.V_reads' HO308.out).2.2 | (with_reducible refine cA ?_ _) | (with_reducible refine cN ?_ _) | (with_reducible refine cD ?_)))
                    (case side2 => exact (Kd.V_reads' HO308.out).2.1)
                    rintro e w63 ⟨v311, rfl, ho0, hb⟩
                    have HS2_ := (hb.cell (wL _ _ (hHeld.2.2))).trans (hHeld.2.2)
                    refine ⟨_, rfl, ?_⟩
                    replace HO_9 := zR HO_9 hb
                    replace HO_10 := A0_ (Kd.V_elder' (by (with_reducible repeat (first | apply Kd.V_alloc | apply Kd.V_drewN | apply Kd.V_drew)); exact HO_10.out) (Kd.R_base ho0) hb)
                    replace HO308 := A0_ (Kd.V_elder' (by (with_reducible repeat (first | apply Kd.V_alloc | apply Kd.V_drewN | apply Kd.V_drew)); exact HO308.out) (Kd.R_base ho0) hb)
                    have HO312 := A0_ (rL (Kd.R_new' (Kd.R_new' (Kd.R_newM (M := fun k_ => (w.heap.size ≤ k_)) ho0 (bZ (zB_ HB)) (fun k_ h_ => h_)) (rX (zR_ HO_8))) (rX (zR_ HO_34))) (bZ (zB_ HB)))
                    replace HO_8 := A0_ (Kd.R_elder' (zR_ HO_8) (Kd.R_base ho0) hb)
                    replace HO_34 := A0_ (Kd.R_elder' (zR_ HO_34) (Kd.R_base ho0) hb)
                    replace BK279 := zK BK279 hb; replace HB := zB HB hb; (try clear hb); (try clear hb2); (try clear hk); (try clear hi); (try clear ho0); obtain ⟨Ao64, co64, eo64⟩ := rS HO312.out
                    (first | subst eo64 | (injection eo64 with f1_ f2_ f3_; have f4_ := f1_.symm; have f5_ := f3_.symm; clear f1_ f2_ f3_; subst f4_; subst f5_))
                    refine hK.out _ _ ⟨(kC BK279.out 0).trans rfl, (kC BK279.out 1).trans rfl, HS2_⟩ (fun hHeld => ?_)
                    clear hK K
                    refine norm_ (a' := ?_) ?_ ?_
                    rotate_left
                    ·show Act.put _ (some 79) _ = _
                     simp only [Act.put, List.setIfInBounds_toArray, List.set_cons_zero, List.set_cons_succ, i64_w, i32_w]
                     rfl
                    refine one_ (i := 8) (N := some 80) #[true, true, true, true, true, true, true, true, true, false] rfl rfl (one_of HT_.out (by kernel_rfl)) (by decide) (fun K hK => ?_)
                    refine goes_ Try.func63 (by kernel_rfl) rfl #[.agg #[.slice A0_0 l0_0.length c0_0, .slice (some ad299) l0_1.length c0_1], .slice Ao59 x10_1.length co59, .int .i64 (rd t281 (rd l0_1 (rd t292 x36_1))), .slice Ao64 t310.length co64] (by rfl) rfl rfl (by (try simp only [List.map_toArray, List.map_cons, List.map_nil]); first | done | rfl | (simp only [List.length_drop, List.length_take]; rfl)) ?_
                    with_reducible refine (impl_conjAt.calls kj35 _ _ l0_0 _ _ l0_1 _ _ x10_1 (rd t281 (rd l0_1 (rd t292 x36_1))) _ _ t310 t313 _ ?side1 ?side2 ?side3 ?side4 ?side5 ?side6 ?side7 ?side8 A55.out).mono ?_
                    (case side1 => exact zC HR0_0 HB)
                    (case side2 => exact HC0_0.out)
                    (case side3 => exact zC HR0_1 HB)
                    (case side4 => exact HC0_1.out)
                    (case side5 => repeat (first | exact (Kd.V_reads' HO_10.out).2.2 | (with_reducible refine cA ?_ _) | (with_reducible refine cN ?_ _) | (with_reducible refine cD ?_)))
                    (case side6 => exact (Kd.V_reads' HO_10.out).2.1)
                    (case side7 => exact zD HO312)
                    (case side8 => exact (rR HO312.out).2.1)
                    rintro e w65 ⟨v314, rfl, ho0, hb⟩
                    have HS2_ := (hb.cell (wL _ _ (hHeld.2.2))).trans (hHeld.2.2)
                    refine ⟨_, rfl, ?_⟩
                    replace HO_9 := zR HO_9 hb
                    replace HO_10 := A0_ (Kd.V_elder' (by (with_reducible repeat (first | apply Kd.V_alloc | apply Kd.V_drewN | apply Kd.V_drew)); exact HO_10.out) (Kd.S_base ho0) hb)
                    replace HO308 := A0_ (Kd.V_elder' (by (with_reducible repeat (first | apply Kd.V_alloc | apply Kd.V_drewN | apply Kd.V_drew)); exact HO308.out) (Kd.S_base ho0) hb)
                    have HO315 := A0_ (Kd.S_lower (Kd.S_new' (Kd.S_new' (Kd.S_new' (Kd.S_newM (M := fun k_ => (w.heap.size ≤ k_)) ho0 (bZ (zB_ HB)) (fun k_ h_ => h_)) (rX (zR_ HO_8))) (rX (zR_ HO_34))) (rX (zR_ HO312))) (bZ (zB_ HB)))
                    replace HO_8 := zR HO_8 hb; replace HO_34 := zR HO_34 hb; replace HO312 := zR HO312 hb; replace BK279 := zK BK279 hb; replace HB := zB HB hb; (try clear hb); (try clear hb2); (try clear hk); (try clear hi); (try clear ho0)
                    refine hK.out _ _ ⟨(kC BK279.out 0).trans rfl, (kC BK279.out 1).trans rfl, HS2_⟩ (fun hHeld => ?_)
                    clear hK K
                    refine norm_ (a' := ?_) ?_ ?_
                    rotate_left
                    ·show Act.put _ (some 80) _ = _
                     simp only [Act.put, List.setIfInBounds_toArray, List.set_cons_zero, List.set_cons_succ, i64_w, i32_w]
                     rfl
                    refine zP 9 (some 10) #[true,true,true,true,true,true,true,true,true,true] ?_
                    refine done_ (done_of HT_.out (by kernel_rfl)) ?_
                    try go_wp2
                    (try simp only [← hl9_1])
                    go_roundg kj35
                    case measure => have := HK1.out; have := HJ35.out; omega
                    case rel => exact ⟨(y305), (t313), (wrap64 (x36_1 + 1)), zt, H', ⟨by have := HK1.out; have := HJ35.out; omega⟩, ⟨by (try simp only [hl9_1]); (with_reducible repeat (first | apply rA | apply rN | apply rD)); exact rM HO_8.out (fun _ hk => ⟨hk.1.1, hk.1.2⟩)⟩, ⟨by (try simp only [hl9_1]); (with_reducible repeat (first | apply rA | apply rN | apply rD)); exact HO_9.out⟩, ⟨Kd.V_mono (Kd.S_V (ok := fun k_ => (w.heap.size ≤ k_) ∧ some k_ ≠ ((.slice (some ad287) t281.length co23) : Value).ownBlock ∧ some k_ ≠ ((.slice (some ⟨go12, 0, none⟩) x9_1.length co12) : Value).ownBlock ∧ some k_ ≠ ((.slice (some ad298) t292.length co30) : Value).ownBlock ∧ k_ ≠ gb279) (by (try simp only [hl9_1]); (with_reducible repeat (first | apply sA | apply sN | apply sD)); exact sM (Kd.S_types (Kd.S_apart' HO315.out (Kd.R_typed HO_9.out) (by decide)) BK279.out (by decide)) (fun _ hk => ⟨hk.1.1.1.1.1.1, ⟨hk.1.1.1.1.2, ⟨hk.1.2, ⟨hk.1.1.1.2, hk.2⟩⟩⟩⟩))) (fun k_ hk => by first | exact ⟨(.inr (hk.1)), hk.2⟩ | exact (.inr (hk)))⟩, ⟨by (try simp only [hl9_1]); (with_reducible repeat (first | apply rA | apply rN | apply rD)); exact rM HO_34.out (fun _ hk => ⟨hk.1.1, hk.1.2⟩)⟩, ⟨by (try simp only [hl9_1]); (with_reducible repeat (first | refine kN ?_ _ | refine kD ?_ | refine kA ?_ _)); exact BK279.out⟩, ⟨zB_ HB⟩⟩
                   rw [if_neg c51] at H
                   exact absurd H (by simp)
                  rw [if_neg c50] at H
                  exact absurd H (by simp)
                 rw [if_neg c49] at H
                 exact absurd H (by simp)
                rw [if_neg c48] at H
                exact absurd H (by simp)
             rw [if_neg c35] at H
             exact absurd H (by simp)
            rw [if_neg c34] at H
            exact absurd H (by simp)
           rw [if_neg c33] at H
           exact absurd H (by simp)
          rw [if_neg c32] at H
          exact absurd H (by simp)
         rw [if_neg c31] at H; have c31b0 := dF c31; (try simp only [hl9_1] at c31b0); clear c31; obtain ⟨t295, A66, H⟩ := zbind H; simp only [Option.some.injEq, Prod.mk.injEq] at H; obtain ⟨rfl, rfl⟩ := H; obtain ⟨Ao67, co67, eo67⟩ := Kd.V_slice HO_10.out; subst eo67
         go_wp2_with (first | ((with_reducible refine gC (f := 64) rfl ?_); refine zJ (some 83) Try.func64 #[.slice Ao67 x10_1.length co67] ?_; (with_reducible refine (impl_copyLists.calls k1 _ _ x10_1 t295 _ ?side1 ?side2 A66.out).mono ?_); (case side1 => repeat (first | exact (Kd.V_reads' HO_10.out).2.2 | (with_reducible refine cA ?_ _) | (with_reducible refine cN ?_ _) | (with_reducible refine cD ?_))); (case side2 => exact (Kd.V_reads' HO_10.out).2.1); rintro e w68 ⟨v296, rfl, ho0, hb⟩; refine ⟨_, rfl, ?_⟩; replace HO_9 := zR HO_9 hb; replace HO_10 := A0_ (Kd.V_elder' (by (with_reducible repeat (first | apply Kd.V_alloc | apply Kd.V_drewN | apply Kd.V_drew)); exact HO_10.out) (Kd.S_base ho0) hb); have HO297 := A0_ (Kd.S_lower (Kd.S_new' (Kd.S_new' (Kd.S_newM (M := fun k_ => (w.heap.size ≤ k_)) ho0 (bZ (zB_ HB)) (fun k_ h_ => h_)) (rX (zR_ HO_8))) (rX (zR_ HO_34))) (bZ (zB_ HB))); replace HO_8 := zR HO_8 hb; replace HO_34 := zR HO_34 hb; replace BK279 := zK BK279 hb; replace HB := zB HB hb; (try clear hb); (try clear ho0)))
         go_ret2
         exact ⟨_, by first | rfl | (simp [*] <;> rfl), zmS HO297 (fun _ hk => hk.1.1.1), zB_ HB⟩
      rw [if_neg c11] at H
      exact absurd H (by simp)
     rw [if_neg c10] at H
     exact absurd H (by simp)
    rw [if_neg c9] at H
    exact absurd H (by simp)
   rw [if_neg c8] at H
   exact absurd H (by simp)
  rw [if_neg c7] at H
  exact absurd H (by simp)
 replace c5 := Bool.eq_false_iff.mpr c5; subst c5
 have H1 : (some (([] : List (List Int)), false)) = some (r1, r2) := by rw [if_neg (show ¬ (false = true) by decide)] at H; exact H
 clear H; have H := H1; clear H1; simp only [Option.some.injEq, Prod.mk.injEq] at H; obtain ⟨rfl, rfl⟩ := H
 go_enter Try.func14, Try.ntmps14
 go_wp2_with (first | ((with_reducible refine gD (N := 3) rfl ?_); refine zX (N := 3) (cs := #[.slice A0_0 l0_0.length c0_0, .slice A0_1 l0_1.length c0_1]) (t := 25) ?_; intro gb279 hg w69 hbox hb; replace HO2 := A0_ (Kd.V_below (Kd.V_elderB (by (with_reducible repeat (first | apply Kd.V_alloc | apply Kd.V_drewN | apply Kd.V_drew)); exact HO2.out) gb279 (Nat.le_of_eq hg.symm)) hb); have BK279 := A0_ (hbox); have GW279 := zG hg HB; have GE279 := zG hg HB; replace HB := zB HB hb; clear hb hbox hg; have hcz70_0 := zc0 BK279; have hcz70_1 := zc1 BK279; have hfz70_0 := kF BK279.out 0; have hfz70_1 := kF BK279.out 1) | ((with_reducible refine gC (f := 53) rfl ?_); refine zJ (some 18) Try.func53 #[.agg #[.slice A0_0 l0_0.length c0_0, .slice A0_1 l0_1.length c0_1], .int .i64 a1, .slice A2 l2.length c2] ?_; (with_reducible refine (impl_VoltageValid.calls k _ _ l0_0 _ _ l0_1 a1 _ _ l2 false _ ?side1 ?side2 ?side3 ?side4 ?side5 ?side6 A4.out).mono ?_); (case side1 => exact zC HR0_0 HB); (case side2 => exact HC0_0.out); (case side3 => exact zC HR0_1 HB); (case side4 => exact HC0_1.out); (case side5 => repeat (first | exact (Kd.V_reads' HO2.out).2.2 | (with_reducible refine cA ?_ _) | (with_reducible refine cN ?_ _) | (with_reducible refine cD ?_))); (case side6 => exact (Kd.V_reads' HO2.out).2.1); rintro e w71 ⟨rfl, hb⟩; refine ⟨_, rfl, ?_⟩; replace HO2 := A0_ (Kd.V_below (by (with_reducible repeat (first | apply Kd.V_alloc | apply Kd.V_drewN | apply Kd.V_drew)); exact HO2.out) hb); replace BK279 := zK BK279 hb; replace HB := zB HB hb; (try clear hb)))
 go_ret2
 exact ⟨_, by first | rfl | (simp [*] <;> rfl), by first | exact Kd.S_nil _ _ _ _ _ | exact Kd.N_nil _ _ _ _ _ | exact Kd.V_nil _ _ _ _ _ | exact Kd.Q_nil _ _ _ _ _ | exact Kd.R_nil _ _ _ _ _, zB_ HB⟩

end Go.Proofs.Ytmegggomhjgehaa.PFnBranch
