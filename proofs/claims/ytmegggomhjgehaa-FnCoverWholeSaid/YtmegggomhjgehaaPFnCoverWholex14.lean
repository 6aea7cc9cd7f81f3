-- Made by a program of this session (wip/tools) out of the loaded program; not trusted: Lean checks it.
import Derived.Test.YtmegggomhjgehaaPFnCoverWholex0
import Derived.Test.YtmegggomhjgehaaPFnCoverWholex6
import Derived.Test.YtmegggomhjgehaaPFnCoverWholex7
import Derived.Test.YtmegggomhjgehaaPFnCoverWholex11
import Derived.Test.YtmegggomhjgehaaPFnCoverWholex12
import Derived.Test.YtmegggomhjgehaaPFnCoverWholex13
-- packed
namespace Go.Proofs.Ytmegggomhjgehaa.PFnCoverWhole
open Go.RowKit Go.Proofs.YtmegggomhjgehaaW.PrintWords Go.Proofs.YtmegggomhjgehaaW.PrintLast Go.Proofs.YtmegggomhjgehaaW.PrintMore
attribute [local go_sem] max2_int min2_int max_two min_two max_three min_three max_four min_four   -- for this text's walks alone
set_option linter.unusedVariables false
set_option linter.unusedSimpArgs false

/-! ### impl_CoverTree: function 14 -/
mutual
def impl_CoverTree.l0 : Nat → List Int → List Bool → List (List Int) → List Int → Int → Int → List Int → List Int → Option ((List (List Int)) × Bool)
  | 0, _, _, _, _, _, _, _, _ => none
  | k + 1, x8, x9, x10, x34, x35, x36, x518000, x518001 => if x36 < x35 then (if 0 ≤ x36 then (if x36 < (x34.length : Int) then (if 0 ≤ (rd x34 x36) then (if (rd x34 x36) < (x518001.length : Int) then (if (rd x34 x36) < (x8.length : Int) then (if 0 ≤ (rd x8 (rd x34 x36)) then (if (rd x8 (rd x34 x36)) < (x9.length : Int) then (if (rdOf false x9 (rd x8 (rd x34 x36)) = true) then (if 0 ≤ (rd x518001 (rd x34 x36)) then (if (rd x518001 (rd x34 x36)) < (x8.length : Int) then (if 0 ≤ (rd x8 (rd x518001 (rd x34 x36))) then (if (rd x8 (rd x518001 (rd x34 x36))) < (x9.length : Int) then (impl_CoverTree.j1 k x8 x9 x10 (rd x34 x36) (rd x518001 (rd x34 x36)) x34 x35 x36 (rdOf false x9 (rd x8 (rd x518001 (rd x34 x36)))) x518000 x518001) else (none)) else (none)) else (none)) else (none)) else (impl_CoverTree.j1 k x8 x9 x10 (rd x34 x36) (rd x518001 (rd x34 x36)) x34 x35 x36 true x518000 x518001)) else (none)) else (none)) else (none)) else (none)) else (none)) else (none)) else (none)) else ((impl_copyLists.f k x10).bind fun t533 => (some (t533, true)))
def impl_CoverTree.j1 : Nat → List Int → List Bool → List (List Int) → Int → Int → List Int → Int → Int → Bool → List Int → List Int → Option ((List (List Int)) × Bool)
  | 0, _, _, _, _, _, _, _, _, _, _, _ => none
  | k + 1, x8, x9, x10, x12, x13, x34, x35, x36, x61, x518000, x518001 => if x61 = true then (impl_CoverTree.l0 k x8 x9 x10 x34 x35 (wrap64 (x36 + 1)) x518000 x518001) else (if 0 ≤ x13 then (if x13 < (x8.length : Int) then (if 0 ≤ (rd x8 x13) then (if (rd x8 x13) < (x9.length : Int) then ((impl_along.f k x518000 x518001 x10 x12).bind fun t544 => ((impl_back.f k t544).bind fun t548 => ((impl_conjAt.f k x518000 x518001 x10 (rd x8 x13) t548).bind fun t551 => (impl_CoverTree.l0 k x8 (x9.set ((rd x8 x13) : Int).toNat true) t551 x34 x35 (wrap64 (x36 + 1)) x518000 x518001)))) else (none)) else (none)) else (none)) else (none))
end
def impl_CoverTree.f (k : Nat) (l0_0 : List Int) (l0_1 : List Int) (a1 : Int) (l2 : List (List Int)) : Option ((List (List Int)) × Bool) := (impl_VoltageValid.f k l0_0 l0_1 a1 l2).bind fun t518 => (if t518 = true then ((impl_vertexOf.f k l0_0 l0_1).bind fun t519 => (if 0 ≤ (l0_0.length : Int) then (if ((l0_0.length : Int) : Int).toNat ≤ 281474976710656 then ((some (List.replicate ((l0_0.length : Int) : Int).toNat false : List Bool)).bind fun y522 => (if 0 < (t519.length : Int) then (if 0 ≤ (rd t519 0) then (if (rd t519 0) < (y522.length : Int) then ((impl_namesFrom.f k l0_0 l0_1 0).bind fun t527 => ((impl_back.f k t527).bind fun t530 => (impl_CoverTree.l0 k t519 (y522.set ((rd t519 0) : Int).toNat true) l2 t530 (t530.length : Int) 0 l0_0 l0_1))) else (none)) else (none)) else (none))) else (none)) else (none))) else (some (([] : List (List Int)), false)))
def impl_CoverTree.T14 : Bool × List (List Nat × List Nat) := (true, [([], []), ([], []), ([], []), ([], []), ([2, 3], [2, 3]), ([4], [4]), ([], []), ([6], [6]), ([0, 1, 5, 7, 7], [0, 1, 5, 7]), ([8, 8, 0, 1, 2, 3, 4, 5, 6, 7, 8], [1, 8])])
def impl_CoverTree.B14 : List Nat := [0, 0, 0, 0, 12, 28, 0, 64, 255, 511]
theorem impl_CoverTree.tab14 : rtab .any (opsOf Try.f14 14) = impl_CoverTree.T14 := by kernel_rfl
theorem impl_CoverTree.bits14 : waitsOk impl_CoverTree.T14.2 impl_CoverTree.B14 = true := by kernel_rfl
set_option maxHeartbeats 8000000 in
set_option maxRecDepth 100000 in
theorem impl_CoverTree.calls (k : Nat) (A0_0 : Option Addr) (c0_0 : Nat) (l0_0 : List Int) (A0_1 : Option Addr) (c0_1 : Nat) (l0_1 : List Int) (a1 : Int) (P2_ : Nat → Prop) (A2 : Option Addr) (c2 : Nat) (l2 : List (List Int)) (r1 : List (List Int)) (r2 : Bool) (w : World) (hr0_0 : Kd.C (Kd.int .i64) w A0_0 l0_0.length l0_0) (hc0_0 : l0_0.length ≤ c0_0) (hr0_1 : Kd.C (Kd.int .i64) w A0_1 l0_1.length l0_1) (hc0_1 : l0_1.length ≤ c0_1) (hs2 : Kd.V (Kd.slice 3 (Kd.int .i64)) 23 w w.heap.size (fun k_ => P2_ k_) (.slice A2 l2.length c2) l2) (h : impl_CoverTree.f k l0_0 l0_1 a1 l2 = some (r1, r2)) :
    Calls Try.prog 14 #[.agg #[.slice A0_0 l0_0.length c0_0, .slice A0_1 l0_1.length c0_1], .int .i64 a1, .slice A2 l2.length c2] w fun e w' => ∃ v0_ : Value, e = .returned (.tuple #[v0_, .bool r2]) ∧ Kd.S (Kd.slice 3 (Kd.int .i64)) 23 w' w.heap.size (fun k_ => (w.heap.size ≤ k_)) v0_ r1 ∧ Below w.heap.size w w' := by
 have hu25 := Try.underlying25; have HR0_0 := A0_ hr0_0; have HC0_0 := A0_ hc0_0; clear hr0_0 hc0_0; have HR0_1 := A0_ hr0_1; have HC0_1 := A0_ hc0_1; clear hr0_1 hc0_1
 have HO2 := A0_ (show Kd.V (Kd.slice 3 (Kd.int .i64)) 23 w w.heap.size (fun k_ => (P2_ k_ ∨ w.heap.size ≤ k_)) (.slice A2 l2.length c2) l2 from Kd.V_mono hs2 (fun k_ hk => .inl hk))
 have HB := A0_ (Below.refl w.heap.size w)
 have H : ((impl_VoltageValid.f k l0_0 l0_1 a1 l2).bind fun t518 => (if t518 = true then ((impl_vertexOf.f k l0_0 l0_1).bind fun t519 => (if 0 ≤ (l0_0.length : Int) then (if ((l0_0.length : Int) : Int).toNat ≤ 281474976710656 then ((some (List.replicate ((l0_0.length : Int) : Int).toNat false : List Bool)).bind fun y522 => (if 0 < (t519.length : Int) then (if 0 ≤ (rd t519 0) then (if (rd t519 0) < (y522.length : Int) then ((impl_namesFrom.f k l0_0 l0_1 0).bind fun t527 => ((impl_back.f k t527).bind fun t530 => (impl_CoverTree.l0 k t519 (y522.set ((rd t519 0) : Int).toNat true) l2 t530 (t530.length : Int) 0 l0_0 l0_1))) else (none)) else (none)) else (none))) else (none)) else (none))) else (some (([] : List (List Int)), false)))) = some (r1, r2) := h
 clear h; obtain ⟨t518, A4, H⟩ := zbind H
 by_cases c5 : t518 = true
 ·subst c5
  have H1 : ((impl_vertexOf.f k l0_0 l0_1).bind fun t519 => (if 0 ≤ (l0_0.length : Int) then (if ((l0_0.length : Int) : Int).toNat ≤ 281474976710656 then ((some (List.replicate ((l0_0.length : Int) : Int).toNat false : List Bool)).bind fun y522 => (if 0 < (t519.length : Int) then (if 0 ≤ (rd t519 0) then (if (rd t519 0) < (y522.length : Int) then ((impl_namesFrom.f k l0_0 l0_1 0).bind fun t527 => ((impl_back.f k t527).bind fun t530 => (impl_CoverTree.l0 k t519 (y522.set ((rd t519 0) : Int).toNat true) l2 t530 (t530.length : Int) 0 l0_0 l0_1))) else (none)) else (none)) else (none))) else (none)) else (none))) = some (r1, r2) := by rw [if_pos rfl] at H; exact H
  clear H; have H := H1; clear H1; obtain ⟨t519, A6, H⟩ := zbind H
  by_cases c7 : 0 ≤ (l0_0.length : Int)
  ·rw [if_pos c7] at H
   have c7b0 := eq_true c7; have c7b1 := dT c7; clear c7
   by_cases c8 : ((l0_0.length : Int) : Int).toNat ≤ 281474976710656
   ·rw [if_pos c8] at H
    have c8b0 := eq_true c8; have c8b1 := dT c8; clear c8
    obtain ⟨y522, hy522⟩ : ∃ y_ : List Bool, y_ = (List.replicate ((l0_0.length : Int) : Int).toNat false) := ⟨_, rfl⟩
    replace H : (if 0 < (t519.length : Int) then (if 0 ≤ (rd t519 0) then (if (rd t519 0) < (y522.length : Int) then ((impl_namesFrom.f k l0_0 l0_1 0).bind fun t527 => ((impl_back.f k t527).bind fun t530 => (impl_CoverTree.l0 k t519 (y522.set ((rd t519 0) : Int).toNat true) l2 t530 (t530.length : Int) 0 l0_0 l0_1))) else (none)) else (none)) else (none)) = some (r1, r2) := zH hy522 H
    have Ny522 := A0_ hy522; clear hy522
    by_cases c9 : 0 < (t519.length : Int)
    ·rw [if_pos c9] at H
     have c9b0 := dT c9
     have c9b1 : decide (0 < t519.length) = true := dT (by omega)
     clear c9
     by_cases c10 : 0 ≤ (rd t519 0)
     ·rw [if_pos c10] at H
      have c10b0 := dT c10; clear c10
      by_cases c11 : (rd t519 0) < (y522.length : Int)
      ·rw [if_pos c11] at H
       have c11b0 := dT c11; clear c11
       obtain ⟨y526, hy526⟩ : ∃ y_ : List Bool, y_ = (y522.set ((rd t519 0) : Int).toNat true) := ⟨_, rfl⟩
       replace H : ((impl_namesFrom.f k l0_0 l0_1 0).bind fun t527 => ((impl_back.f k t527).bind fun t530 => (impl_CoverTree.l0 k t519 y526 l2 t530 (t530.length : Int) 0 l0_0 l0_1))) = some (r1, r2) := zH hy526 H
       have Ny526 := A0_ hy526; clear hy526; obtain ⟨t527, A13, H⟩ := zbind H; obtain ⟨t530, A14, H⟩ := zbind H; have H' := A0_ H; clear H
       go_enter Try.func14, Try.ntmps14
       go_wp2_with (first | ((with_reducible refine gD (N := 3) rfl ?_); refine zX (N := 3) (cs := #[.slice A0_0 l0_0.length c0_0, .slice A0_1 l0_1.length c0_1]) (t := 25) ?_; intro gb517 hg w15 hbox hb; replace HO2 := A0_ (Kd.V_below (Kd.V_elderB (by (with_reducible repeat (first | apply Kd.V_alloc | apply Kd.V_drewN | apply Kd.V_drew)); exact HO2.out) gb517 (Nat.le_of_eq hg.symm)) hb); have BK517 := A0_ (hbox); have GW517 := zG hg HB; have GE517 := zG hg HB; replace HB := zB HB hb; clear hb hbox hg; have hcz16_0 := zc0 BK517; have hcz16_1 := zc1 BK517; have hfz16_0 := kF BK517.out 0; have hfz16_1 := kF BK517.out 1) | ((with_reducible refine gC (f := 53) rfl ?_); refine zJ (some 18) Try.func53 #[.agg #[.slice A0_0 l0_0.length c0_0, .slice A0_1 l0_1.length c0_1], .int .i64 a1, .slice A2 l2.length c2] ?_; (with_reducible refine (impl_VoltageValid.calls k _ _ l0_0 _ _ l0_1 a1 _ _ l2 true _ ?side1 ?side2 ?side3 ?side4 ?side5 ?side6 A4.out).mono ?_); (case side1 => exact zC HR0_0 HB); (case side2 => exact HC0_0.out); (case side3 => exact zC HR0_1 HB); (case side4 => exact HC0_1.out); (case side5 => repeat (first | exact (Kd.V_reads' HO2.out).2.2 | (with_reducible refine cA ?_ _) | (with_reducible refine cN ?_ _) | (with_reducible refine cD ?_))); (case side6 => exact (Kd.V_reads' HO2.out).2.1); rintro e w17 ⟨rfl, hb⟩; refine ⟨_, rfl, ?_⟩; replace HO2 := A0_ (Kd.V_below (by (with_reducible repeat (first | apply Kd.V_alloc | apply Kd.V_drewN | apply Kd.V_drew)); exact HO2.out) hb); replace BK517 := zK BK517 hb; replace HB := zB HB hb; (try clear hb); have hcz18_0 := zc0 BK517; have hcz18_1 := zc1 BK517; have hfz18_0 := kF BK517.out 0; have hfz18_1 := kF BK517.out 1) | ((with_reducible refine gC (f := 59) rfl ?_); refine zJ (some 21) Try.func59 #[.agg #[.slice A0_0 l0_0.length c0_0, .slice A0_1 l0_1.length c0_1]] ?_; (with_reducible refine (impl_vertexOf.calls k _ _ l0_0 _ _ l0_1 t519 _ ?side1 ?side2 ?side3 ?side4 A6.out).mono ?_); (case side1 => exact zC HR0_0 HB); (case side2 => exact HC0_0.out); (case side3 => exact zC HR0_1 HB); (case side4 => exact HC0_1.out); rintro e w19 ⟨v520, rfl, ho0, hb⟩; refine ⟨_, rfl, ?_⟩; replace HO2 := A0_ (Kd.V_elder' (by (with_reducible repeat (first | apply Kd.V_alloc | apply Kd.V_drewN | apply Kd.V_drew)); exact HO2.out) (Kd.R_base ho0) hb); have HO521 := A0_ (rL (Kd.R_newM (M := fun k_ => (w.heap.size ≤ k_)) ho0 (bZ (zB_ HB)) (fun k_ h_ => h_)) (bZ (zB_ HB))); replace BK517 := zK BK517 hb; replace HB := zB HB hb; (try clear hb); (try clear ho0); have hcz20_0 := zc0 BK517; have hcz20_1 := zc1 BK517; have hfz20_0 := kF BK517.out 0; have hfz20_1 := kF BK517.out 1) | ((with_reducible refine gD (N := 25) rfl ?_); refine Kd.R_make Kd.bool _ 4 rfl (N := 25) rfl 60 _ _ rfl (l0_0.length : Int) rfl rfl Try.underlying60 (.bool false) 1 info4 rfl (by decide) (by omega) false (ok := fun _ => True) (okp := fun _ => True) rfl (fun _ hk => hk) trivial (zd) (Nat.le_trans (Nat.mul_le_mul_right _ (zd : (l0_0.length : Int).toNat ≤ 281474976710656)) (by omega)) (Below.refl _ _) (Nat.le_refl _) ?_; intro v523 w21 ho22 hb hg_ hnew_; clear hg_ hnew_; (first | rw [← Ny522.out] at ho22 | (simp only [Int.reduceToNat] at ho22; rw [← Ny522.out] at ho22)); replace HO2 := A0_ (Kd.V_elder' (by (with_reducible repeat (first | apply Kd.V_alloc | apply Kd.V_drewN | apply Kd.V_drew)); exact HO2.out) (Kd.R_base ho22) hb); replace HO521 := zR HO521 hb; have HO524 := A0_ (rL (Kd.R_newM (M := fun k_ => (w.heap.size ≤ k_)) ho22 (bZ (zB_ HB)) (fun k_ h_ => h_)) (bZ (zB_ HB))); replace BK517 := zK BK517 hb; replace HB := zB HB hb; clear hb ho22; obtain ⟨Ao23, co23, eo23⟩ := rS HO521.out; subst eo23; have p525 : 0 ≤ (0 : Int) := (by omega); have q525 : 0 < (t519.length : Int) := zd; obtain ⟨ad525, e525, hx525_0⟩ := tI (rR HO521.out).2.2 0 p525 q525; cases e525; have qi525 : (0 < t519.length) = True := eq_true (by omega); (try rw [show ((0 : Int)).toNat = 0 from rfl] at hx525_0); (try rw [Addr.add_zero'] at hx525_0); replace p525 := eq_true p525; replace q525 := eq_true q525; have p12 : 0 ≤ ((rd t519 0) : Int) := zd; have q12 : ((rd t519 0) : Int) < ((y522.length : Int) : Int) := zd; obtain ⟨go12, co12, eo12, gb12, gl12, cl12, HG12⟩ := Kd.R_form HO524.out (by omega); (first | cases eo12 | (injection eo12 with ea_ en_ ec_; (first | subst ea_ | (injection ea_ with ea_; subst ea_)); subst ec_; clear en_)); have GB12 := A0_ gb12; have GG12 := A0_ HG12; clear gb12 gl12 HG12; obtain ⟨hx12_0, hf12_0⟩ := Kd.R_celln false HO524.out ((rd t519 0) : Int) p12 q12; replace p12 := eq_true p12; replace q12 := eq_true q12; have n_ := A0_ (rM (ok' := (fun k_ => (w.heap.size ≤ k_))) HO524.out (fun k_ hk => hk.1)); clear HO524; have HO524 := n_; clear n_; obtain ⟨hy24_, hz24_⟩ := Kd.R_celln false HO524.out ((rd t519 0) : Int) (zd) (zd); have HP24 := Kd.R_putg HO524.out ((rd t519 0) : Int) true) | ((with_reducible refine gS (t := 4) (p := 30) rfl ?_); refine store_event (t := 4) (p := 30) (v := ?vo_w25) (w1 := (w21.setCell ⟨go12, ((rd t519 0) : Int).toNat, none⟩ (.bool true))) ?hg ?ho ?hn ?hr ?_; (case ho => rfl); (case hg => rfl); (case hn => rfl); (case hr => first | (go_simp; done) | (go_simp; rfl)); intro w25 hw; have hg : w21.grownBy w25 (some go12) := (by rw [hw]; exact HP24.2); have hp_ : Kd.R Kd.bool 4 w25 w.heap.size (fun k_ => (w.heap.size ≤ k_)) (.slice (some ⟨go12, 0, none⟩) y522.length co12) y526 := (by rw [hw, Ny526.out]; exact HP24.1); clear HP24; replace HO2 := A0_ (Kd.V_afterv (v := (.slice (some ⟨go12, 0, none⟩) y522.length co12)) (v1 := (.slice (some ⟨go12, 0, none⟩) y522.length co12)) (ok := (fun k_ => (P2_ k_ ∨ w.heap.size ≤ k_) ∧ some k_ ≠ (.slice (some ad525) t519.length co23 : Value).ownBlock ∧ k_ ≠ gb517)) (by (with_reducible repeat (first | apply Kd.V_alloc | apply Kd.V_drewN | apply Kd.V_drew)); exact Kd.V_mono HO2.out (fun _ hk => ⟨⟨hk.1.1.1, ⟨hk.1.2, hk.1.1.2⟩⟩, hk.2⟩)) hg (.inl rfl)); replace BK517 := A0_ (blk_grown (g := gb517) (o := .cells #[.slice A0_0 l0_0.length c0_0, .slice A0_1 l0_1.length c0_1] 25 (0, 0)) (zK_ BK517) hg (Kd.R_ne HO524.out BK517.out (by decide))); replace HO521 := A0_ (Kd.R_over' (v := (.slice (some ⟨go12, 0, none⟩) y522.length co12)) (zR_ HO521) (Kd.R_typed HO524.out) (by decide) hg); replace HO524 := A0_ (hp_); replace HB := A0_ ((by rw [hw]; exact bS (HB.out) GB12.out : Below w.heap.size w w25)); clear hg hw hp_; have hcz26_0 := zc0 BK517; have hcz26_1 := zc1 BK517; have hfz26_0 := kF BK517.out 0; have hfz26_1 := kF BK517.out 1) | ((with_reducible refine gC (f := 61) rfl ?_); refine zJ (some 33) Try.func61 #[.agg #[.slice A0_0 l0_0.length c0_0, .slice A0_1 l0_1.length c0_1], .int .i64 0] ?_; (with_reducible refine (impl_namesFrom.calls k _ _ l0_0 _ _ l0_1 0 t527 _ ?side1 ?side2 ?side3 ?side4 A13.out).mono ?_); (case side1 => exact zC HR0_0 HB); (case side2 => exact HC0_0.out); (case side3 => exact zC HR0_1 HB); (case side4 => exact HC0_1.out); rintro e w27 ⟨v528, rfl, ho0, hb⟩; refine ⟨_, rfl, ?_⟩; replace HO2 := A0_ (Kd.V_elder' (by (with_reducible repeat (first | apply Kd.V_alloc | apply Kd.V_drewN | apply Kd.V_drew)); exact HO2.out) (Kd.R_base ho0) hb); replace HO524 := zR HO524 hb; have HO529 := A0_ (rL (Kd.R_new' (Kd.R_newM (M := fun k_ => (w.heap.size ≤ k_)) ho0 (bZ (zB_ HB)) (fun k_ h_ => h_)) (rX (zR_ HO521))) (bZ (zB_ HB))); replace HO521 := A0_ (Kd.R_elder' (zR_ HO521) (Kd.R_base ho0) hb); replace BK517 := zK BK517 hb; replace HB := zB HB hb; (try clear hb); (try clear ho0); obtain ⟨Ao28, co28, eo28⟩ := rS HO529.out; subst eo28) | ((with_reducible refine gC (f := 60) rfl ?_); refine zJ (some 34) Try.func60 #[.slice Ao28 t527.length co28] ?_; (with_reducible refine (impl_back.calls k _ _ t527 t530 _ ?side1 ?side2 A14.out).mono ?_); (case side1 => exact zD HO529); (case side2 => exact (rR HO529.out).2.1); rintro e w29 ⟨v531, rfl, ho0, hb⟩; refine ⟨_, rfl, ?_⟩; replace HO2 := A0_ (Kd.V_elder' (by (with_reducible repeat (first | apply Kd.V_alloc | apply Kd.V_drewN | apply Kd.V_drew)); exact HO2.out) (Kd.R_base ho0) hb); replace HO524 := zR HO524 hb; have HO532 := A0_ (rL (Kd.R_new' (Kd.R_new' (Kd.R_newM (M := fun k_ => (w.heap.size ≤ k_)) ho0 (bZ (zB_ HB)) (fun k_ h_ => h_)) (rX (zR_ HO521))) (rX (zR_ HO529))) (bZ (zB_ HB))); replace HO521 := A0_ (Kd.R_elder' (zR_ HO521) (Kd.R_base ho0) hb); replace HO529 := A0_ (Kd.R_elder' (zR_ HO529) (Kd.R_base ho0) hb); replace BK517 := zK BK517 hb; replace HB := zB HB hb; (try clear hb); (try clear ho0); obtain ⟨Ao30, co30, eo30⟩ := rS HO532.out; subst eo30))
       go_loopg [10, 36] k (fun kq v10 v36 w' => ∃ (x9_1 : List Bool) (x10_1 : List (List Int)) (x36_1 : Int), v36 = .int .i64 x36_1 ∧ Aside0 (impl_CoverTree.l0 kq t519 x9_1 x10_1 t530 (t530.length : Int) x36_1 l0_0 l0_1 = some (r1, r2)) ∧ Aside0 (kq ≤ k) ∧ Aside0 (Kd.R (Kd.int .i64) 3 w' w.heap.size (fun k_ => (w.heap.size ≤ k_) ∧ some k_ ≠ ((.slice Ao30 t530.length co30) : Value).ownBlock) (.slice (some ad525) t519.length co23) t519) ∧ Aside0 (Kd.R Kd.bool 4 w' w.heap.size (fun k_ => (w.heap.size ≤ k_)) (.slice (some ⟨go12, 0, none⟩) y522.length co12) x9_1) ∧ Aside0 (Kd.V (Kd.slice 3 (Kd.int .i64)) 23 w' w.heap.size (fun k_ => (P2_ k_ ∨ w.heap.size ≤ k_) ∧ some k_ ≠ ((.slice (some ad525) t519.length co23) : Value).ownBlock ∧ some k_ ≠ ((.slice (some ⟨go12, 0, none⟩) y522.length co12) : Value).ownBlock ∧ some k_ ≠ ((.slice Ao30 t530.length co30) : Value).ownBlock ∧ k_ ≠ gb517) v10 x10_1) ∧ Aside0 (Kd.R (Kd.int .i64) 3 w' w.heap.size (fun k_ => (w.heap.size ≤ k_) ∧ some k_ ≠ ((.slice (some ad525) t519.length co23) : Value).ownBlock) (.slice Ao30 t530.length co30) t530) ∧ Aside0 (w'.heap[gb517]? = some (.cells #[(.slice A0_0 l0_0.length c0_0), (.slice A0_1 l0_1.length c0_1)] 25 (0, 0))) ∧ Aside0 (Below w.heap.size w w'))
       case atStart => exact ⟨(y526), (l2), (0), zt, H', ⟨Nat.le_refl _⟩, ⟨zmR HO521 (fun _ hk => ⟨hk.1.1.1, hk.2⟩)⟩, ⟨zR_ HO524⟩, ⟨by (with_reducible repeat (first | apply Kd.V_alloc | apply Kd.V_drewN | apply Kd.V_drew)); exact Kd.V_mono HO2.out (fun _ hk => ⟨hk.1.1.1.1, ⟨hk.1.1.1.2.1, ⟨hk.1.1.2, ⟨hk.2, hk.1.1.1.2.2⟩⟩⟩⟩)⟩, ⟨zmR HO532 (fun _ hk => ⟨hk.1.1.1, hk.1.2⟩)⟩, ⟨zK_ BK517⟩, ⟨zB_ HB⟩⟩
       case round =>
        clear H'; (try clear c1); (try clear p1); (try clear q1); (try clear hx1); (try clear c2); (try clear p2); (try clear c5); (try clear p5); (try clear q5); (try clear hx5); (try clear qi5); (try clear c6); (try clear c7); (try clear c7b0); (try clear c7b1); (try clear c8); (try clear c8b0); (try clear c8b1); (try clear c9); (try clear c9b0); (try clear c9b1); (try clear c10); (try clear c10b0); (try clear c11); (try clear c11b0); (try clear p12); (try clear q12); (try clear hx12); (try clear hf12); (try clear c14); (try clear hcz16_0); (try clear hcz16_1); (try clear hcz18_0); (try clear hcz18_1); (try clear hcz20_0); (try clear hcz20_1); (try clear hcz26_0); (try clear hcz26_1); (try clear hfz16_0); (try clear hfz16_1); (try clear hfz18_0); (try clear hfz18_1); (try clear hfz20_0); (try clear hfz20_1); (try clear hfz26_0); (try clear hfz26_1); (try clear hx12_0); (try clear hx525_0); (try clear p12); (try clear p525); (try clear q12); (try clear q525); obtain ⟨x9_1, x10_1, x36_1, rfl, HA, HK1, HO_8, HO_9, HO_10, HO_34, BK517, HB⟩ := hrel; have hl9_1 := (rR HO_9.out).1; rw [hl9_1] at HO_9; (try simp only [hl9_1]); (try simp only [hl9_1] at BK517); (try simp only [hl9_1] at HO_8); (try simp only [hl9_1] at HO_10); (try simp only [hl9_1] at HO_34)
        cases gk with
        | zero => exact absurd HA.out (by simp [impl_CoverTree.l0])
        | succ k1 =>
         have H := HA.out; clear HA; simp only [impl_CoverTree.l0] at H
         by_cases c31 : x36_1 < (t530.length : Int)
         ·rw [if_pos c31] at H
          have c31b0 := dT c31; (try simp only [hl9_1] at c31b0); clear c31
          by_cases c32 : 0 ≤ x36_1
          ·rw [if_pos c32] at H
           have c32b0 := dT c32; clear c32
           by_cases c33 : x36_1 < (t530.length : Int)
           ·rw [if_pos c33] at H
            have c33b0 := dT c33; (try simp only [hl9_1] at c33b0); clear c33
            by_cases c34 : 0 ≤ (rd t530 x36_1)
            ·rw [if_pos c34] at H
             have c34b0 := dT c34; clear c34
             by_cases c35 : (rd t530 x36_1) < (l0_1.length : Int)
             ·rw [if_pos c35] at H
              have c35b0 := dT c35; (try simp only [hl9_1] at c35b0); clear c35; have HC36 := A0_ H; clear H
              have p536 : 0 ≤ (x36_1 : Int) := zd
              have q536 : x36_1 < (t530.length : Int) := zd
              obtain ⟨ad536, e536, hx536_0⟩ := tI (rR HO_34.out).2.2 x36_1 p536 q536
              cases e536
              replace p536 := eq_true p536; replace q536 := eq_true q536; have hcz37_0 := zc0 BK517; have hcz37_1 := zc1 BK517; have hfz37_0 := kF BK517.out 0; have hfz37_1 := kF BK517.out 1
              have p537 : 0 ≤ ((rd t530 x36_1) : Int) := zd
              have q537 : (rd t530 x36_1) < (l0_1.length : Int) := zd
              obtain ⟨ad537, e537, hx537_0⟩ := tI HR0_1.out (rd t530 x36_1) p537 q537
              cases e537
              try replace hx537_0 := (HB.out.cell (wL w _ hx537_0)).trans hx537_0
              replace p537 := eq_true p537; replace q537 := eq_true q537
              go_upto_region 11 with (fail)
              go_cut [61] (fun v61 wc => ∃ (kq : Nat) (x61_35 : Bool), v61 = .bool x61_35 ∧ Aside0 (impl_CoverTree.j1 kq t519 x9_1 x10_1 (rd t530 x36_1) (rd l0_1 (rd t530 x36_1)) t530 (t530.length : Int) x36_1 x61_35 l0_0 l0_1 = some (r1, r2)) ∧ Aside0 (kq ≤ k1) ∧ Aside0 (Kd.R (Kd.int .i64) 3 wc w.heap.size (fun k_ => (w.heap.size ≤ k_) ∧ some k_ ≠ ((.slice (some ad536) t530.length co30) : Value).ownBlock) (.slice (some ad525) t519.length co23) t519) ∧ Aside0 (Kd.R Kd.bool 4 wc w.heap.size (fun k_ => (w.heap.size ≤ k_)) (.slice (some ⟨go12, 0, none⟩) x9_1.length co12) x9_1) ∧ Aside0 (Kd.V (Kd.slice 3 (Kd.int .i64)) 23 wc w.heap.size (fun k_ => (P2_ k_ ∨ w.heap.size ≤ k_) ∧ some k_ ≠ ((.slice (some ad525) t519.length co23) : Value).ownBlock ∧ some k_ ≠ ((.slice (some ⟨go12, 0, none⟩) x9_1.length co12) : Value).ownBlock ∧ some k_ ≠ ((.slice (some ad536) t530.length co30) : Value).ownBlock ∧ k_ ≠ gb517) u10 x10_1) ∧ Aside0 (Kd.R (Kd.int .i64) 3 wc w.heap.size (fun k_ => (w.heap.size ≤ k_) ∧ some k_ ≠ ((.slice (some ad525) t519.length co23) : Value).ownBlock) (.slice (some ad536) t530.length co30) t530) ∧ Aside0 (wc.heap[gb517]? = some (.cells #[(.slice A0_0 l0_0.length c0_0), (.slice (some ad537) l0_1.length c0_1)] 25 (0, 0))) ∧ Aside0 (Below w.heap.size w wc))
              case first =>
               have H := HC36.out; clear HC36
               by_cases c38 : (rd t530 x36_1) < (t519.length : Int)
               ·rw [if_pos c38] at H
                have c38b0 := dT c38; (try simp only [hl9_1] at c38b0); clear c38
                (first | rw [c38b0] | (simp only [i64_w, i32_w]; rw [c38b0]) | skip)
                by_cases c39 : 0 ≤ (rd t519 (rd t530 x36_1))
                ·rw [if_pos c39] at H
                 have c39b0 := dT c39; clear c39
                 by_cases c40 : (rd t519 (rd t530 x36_1)) < (x9_1.length : Int)
                 ·rw [if_pos c40] at H
                  have c40b0 := dT c40; (try simp only [hl9_1] at c40b0); clear c40
                  obtain ⟨bq41, hbq41⟩ : ∃ b_ : Bool, b_ = (rdOf false x9_1 (rd t519 (rd t530 x36_1))) := ⟨_, rfl⟩
                  replace H : (if (bq41 = true) then (if 0 ≤ (rd l0_1 (rd t530 x36_1)) then (if (rd l0_1 (rd t530 x36_1)) < (t519.length : Int) then (if 0 ≤ (rd t519 (rd l0_1 (rd t530 x36_1))) then (if (rd t519 (rd l0_1 (rd t530 x36_1))) < (x9_1.length : Int) then (impl_CoverTree.j1 k1 t519 x9_1 x10_1 (rd t530 x36_1) (rd l0_1 (rd t530 x36_1)) t530 (t530.length : Int) x36_1 (rdOf false x9_1 (rd t519 (rd l0_1 (rd t530 x36_1)))) l0_0 l0_1) else (none)) else (none)) else (none)) else (none)) else (impl_CoverTree.j1 k1 t519 x9_1 x10_1 (rd t530 x36_1) (rd l0_1 (rd t530 x36_1)) t530 (t530.length : Int) x36_1 true l0_0 l0_1)) = some (r1, r2) := by rw [← hbq41] at H; exact H
                  have Nbq41 := A0_ hbq41; clear hbq41
                  by_cases c42 : (bq41 = true)
                  ·subst c42
                   have H1 : (if 0 ≤ (rd l0_1 (rd t530 x36_1)) then (if (rd l0_1 (rd t530 x36_1)) < (t519.length : Int) then (if 0 ≤ (rd t519 (rd l0_1 (rd t530 x36_1))) then (if (rd t519 (rd l0_1 (rd t530 x36_1))) < (x9_1.length : Int) then (impl_CoverTree.j1 k1 t519 x9_1 x10_1 (rd t530 x36_1) (rd l0_1 (rd t530 x36_1)) t530 (t530.length : Int) x36_1 (rdOf false x9_1 (rd t519 (rd l0_1 (rd t530 x36_1)))) l0_0 l0_1) else (none)) else (none)) else (none)) else (none)) = some (r1, r2) := by rw [if_pos rfl] at H; exact H
                   clear H; have H := H1; clear H1
                   by_cases c43 : 0 ≤ (rd l0_1 (rd t530 x36_1))
                   ·rw [if_pos c43] at H
                    have c43b0 := dT c43; clear c43
                    by_cases c44 : (rd l0_1 (rd t530 x36_1)) < (t519.length : Int)
                    ·rw [if_pos c44] at H
                     have c44b0 := dT c44; (try simp only [hl9_1] at c44b0); clear c44
                     by_cases c45 : 0 ≤ (rd t519 (rd l0_1 (rd t530 x36_1)))
                     ·rw [if_pos c45] at H
                      have c45b0 := dT c45; clear c45
                      by_cases c46 : (rd t519 (rd l0_1 (rd t530 x36_1))) < (x9_1.length : Int)
                      ·rw [if_pos c46] at H
                       have c46b0 := dT c46; (try simp only [hl9_1] at c46b0); clear c46; have H' := A0_ H; clear H
                       have p538 : 0 ≤ ((rd t530 x36_1) : Int) := zd
                       have q538 : (rd t530 x36_1) < (t519.length : Int) := zd
                       obtain ⟨ad538, e538, hx538_0⟩ := tI (rR HO_8.out).2.2 (rd t530 x36_1) p538 q538
                       obtain rfl : ad525 = ad538 := (by injection e538)
                       replace p538 := eq_true p538; replace q538 := eq_true q538
                       have p539 : 0 ≤ ((rd t519 (rd t530 x36_1)) : Int) := zd
                       have q539 : (rd t519 (rd t530 x36_1)) < (x9_1.length : Int) := zd
                       obtain ⟨ad539, e539, hx539_0⟩ := Kd.at_bool (rR HO_9.out).2.2 (rd t519 (rd t530 x36_1)) p539 q539
                       (try rw [← Nbq41.out] at hx539_0)
                       obtain rfl : (⟨go12, 0, none⟩ : Addr) = ad539 := (by injection e539)
                       (first | simp only [add_plain] at hx539_0 | simp only [add_at] at hx539_0 | simp only [Addr.add, Nat.zero_add] at hx539_0 | skip)
                       replace p539 := eq_true p539; replace q539 := eq_true q539
                       have p540 : 0 ≤ ((rd l0_1 (rd t530 x36_1)) : Int) := zd
                       have q540 : (rd l0_1 (rd t530 x36_1)) < (t519.length : Int) := zd
                       obtain ⟨ad540, e540, hx540_0⟩ := tI (rR HO_8.out).2.2 (rd l0_1 (rd t530 x36_1)) p540 q540
                       obtain rfl : ad525 = ad540 := (by injection e540)
                       replace p540 := eq_true p540; replace q540 := eq_true q540
                       have p541 : 0 ≤ ((rd t519 (rd l0_1 (rd t530 x36_1))) : Int) := zd
                       have q541 : (rd t519 (rd l0_1 (rd t530 x36_1))) < (x9_1.length : Int) := zd
                       obtain ⟨ad541, e541, hx541_0⟩ := Kd.at_bool (rR HO_9.out).2.2 (rd t519 (rd l0_1 (rd t530 x36_1))) p541 q541
                       (try rw [← Nbq41.out] at hx541_0)
                       obtain rfl : (⟨go12, 0, none⟩ : Addr) = ad541 := (by injection e541)
                       (first | simp only [add_plain] at hx541_0 | simp only [add_at] at hx541_0 | simp only [Addr.add, Nat.zero_add] at hx541_0 | skip)
                       replace p541 := eq_true p541; replace q541 := eq_true q541
                       go_wp2
                       go_meet
                       case rel => exact ⟨_, (rdOf false x9_1 (rd t519 (rd l0_1 (rd t530 x36_1)))), zt, H', ⟨by have := HK1.out; first | omega | exact Nat.le_refl _⟩, ⟨by (try simp only [hl9_1]); (with_reducible repeat (first | apply rA | apply rN | apply rD)); exact HO_8.out⟩, ⟨by (try simp only [hl9_1]); (with_reducible repeat (first | apply rA | apply rN | apply rD)); exact HO_9.out⟩, ⟨by (try simp only [hl9_1]); (with_reducible repeat (first | apply Kd.V_alloc | apply Kd.V_drewN | apply Kd.V_drew)); exact HO_10.out⟩, ⟨by (try simp only [hl9_1]); (with_reducible repeat (first | apply rA | apply rN | apply rD)); exact HO_34.out⟩, ⟨by (try simp only [hl9_1]); (with_reducible repeat (first | refine kN ?_ _ | refine kD ?_ | refine kA ?_ _)); exact BK517.out⟩, ⟨zB_ HB⟩⟩
                      rw [if_neg c46] at H
                      exact absurd H (by simp)
                     rw [if_neg c45] at H
                     exact absurd H (by simp)
                    rw [if_neg c44] at H
                    exact absurd H (by simp)
                   rw [if_neg c43] at H
                   exact absurd H (by simp)
                  replace c42 := Bool.eq_false_iff.mpr c42; subst c42
                  have H1 : (impl_CoverTree.j1 k1 t519 x9_1 x10_1 (rd t530 x36_1) (rd l0_1 (rd t530 x36_1)) t530 (t530.length : Int) x36_1 true l0_0 l0_1) = some (r1, r2) := by rw [if_neg (show ¬ (false = true) by decide)] at H; exact H
                  clear H; have H := H1; clear H1; have H' := A0_ H; clear H
                  have p538 : 0 ≤ ((rd t530 x36_1) : Int) := zd
                  have q538 : (rd t530 x36_1) < (t519.length : Int) := zd
                  obtain ⟨ad538, e538, hx538_0⟩ := tI (rR HO_8.out).2.2 (rd t530 x36_1) p538 q538
                  obtain rfl : ad525 = ad538 := (by injection e538)
                  replace p538 := eq_true p538; replace q538 := eq_true q538
                  have p539 : 0 ≤ ((rd t519 (rd t530 x36_1)) : Int) := zd
                  have q539 : (rd t519 (rd t530 x36_1)) < (x9_1.length : Int) := zd
                  obtain ⟨ad539, e539, hx539_0⟩ := Kd.at_bool (rR HO_9.out).2.2 (rd t519 (rd t530 x36_1)) p539 q539
                  (try rw [← Nbq41.out] at hx539_0)
                  obtain rfl : (⟨go12, 0, none⟩ : Addr) = ad539 := (by injection e539)
                  (first | simp only [add_plain] at hx539_0 | simp only [add_at] at hx539_0 | simp only [Addr.add, Nat.zero_add] at hx539_0 | skip)
                  replace p539 := eq_true p539; replace q539 := eq_true q539
                  go_wp2
                  go_meet
                  case rel => exact ⟨_, (true), zt, H', ⟨by have := HK1.out; first | omega | exact Nat.le_refl _⟩, ⟨by (try simp only [hl9_1]); (with_reducible repeat (first | apply rA | apply rN | apply rD)); exact HO_8.out⟩, ⟨by (try simp only [hl9_1]); (with_reducible repeat (first | apply rA | apply rN | apply rD)); exact HO_9.out⟩, ⟨by (try simp only [hl9_1]); (with_reducible repeat (first | apply Kd.V_alloc | apply Kd.V_drewN | apply Kd.V_drew)); exact HO_10.out⟩, ⟨by (try simp only [hl9_1]); (with_reducible repeat (first | apply rA | apply rN | apply rD)); exact HO_34.out⟩, ⟨by (try simp only [hl9_1]); (with_reducible repeat (first | refine kN ?_ _ | refine kD ?_ | refine kA ?_ _)); exact BK517.out⟩, ⟨zB_ HB⟩⟩
                 rw [if_neg c40] at H
                 exact absurd H (by simp)
                rw [if_neg c39] at H
                exact absurd H (by simp)
               rw [if_neg c38] at H
               exact absurd H (by simp)
              case rest =>
               clear HC36; (try clear c1); (try clear p1); (try clear q1); (try clear hx1); (try clear c2); (try clear p2); (try clear c3); (try clear c4); (try clear q4); (try clear c5); (try clear p5); (try clear q5); (try clear hx5); (try clear qi5); (try clear c6); (try clear c7); (try clear c7b0); (try clear c7b1); (try clear c8); (try clear c8b0); (try clear c8b1); (try clear c9); (try clear c9b0); (try clear c9b1); (try clear c10); (try clear c10b0); (try clear c11); (try clear c11b0); (try clear p12); (try clear q12); (try clear hx12); (try clear hf12); (try clear c14); (try clear c31); (try clear c31b0); (try clear c32); (try clear c32b0); (try clear c33); (try clear c33b0); (try clear c34); (try clear c34b0); (try clear c35); (try clear c35b0); (try clear c38); (try clear c38b0); (try clear c39); (try clear c39b0); (try clear c40); (try clear c40b0); (try clear q41); (try clear c42); (try clear c43); (try clear c43b0); (try clear c44); (try clear c44b0); (try clear c45); (try clear c45b0); (try clear c46); (try clear c46b0); (try clear hcz16_0); (try clear hcz16_1); (try clear hcz18_0); (try clear hcz18_1); (try clear hcz20_0); (try clear hcz20_1); (try clear hcz26_0); (try clear hcz26_1); (try clear hcz37_0); (try clear hcz37_1); (try clear hfz16_0); (try clear hfz16_1); (try clear hfz18_0); (try clear hfz18_1); (try clear hfz20_0); (try clear hfz20_1); (try clear hfz26_0); (try clear hfz26_1); (try clear hfz37_0); (try clear hfz37_1); (try clear hx12_0); (try clear hx525_0); (try clear hx536_0); (try clear hx537_0); (try clear hx538_0); (try clear hx539_0); (try clear hx540_0); (try clear hx541_0); (try clear p1); (try clear p12); (try clear p2); (try clear p5); (try clear p525); (try clear p536); (try clear p537); (try clear p538); (try clear p539); (try clear p540); (try clear p541); (try clear q1); (try clear q12); (try clear q5); (try clear q525); (try clear q536); (try clear q537); (try clear q538); (try clear q539); (try clear q540); (try clear q541); obtain ⟨kq, x61_35, rfl, HA, HJ35, HO_8, HO_9, HO_10, HO_34, BK517, HB⟩ := hcut
               cases kq with
               | zero => exact absurd HA.out (by simp [impl_CoverTree.j1])
               | succ kj35 =>
                have H := HA.out; clear HA; simp only [impl_CoverTree.j1] at H
                by_cases c47 : x61_35 = true
                ·subst c47
                 have H1 : (impl_CoverTree.l0 kj35 t519 x9_1 x10_1 t530 (t530.length : Int) (wrap64 (x36_1 + 1)) l0_0 l0_1) = some (r1, r2) := by rw [if_pos rfl] at H; exact H
                 clear H; have H := H1; clear H1; have H' := A0_ H; clear H
                 go_wp2
                 (try simp only [← hl9_1])
                 go_roundg kj35
                 case measure => have := HK1.out; have := HJ35.out; omega
                 case rel => exact ⟨(x9_1), (x10_1), (wrap64 (x36_1 + 1)), zt, H', ⟨by have := HK1.out; have := HJ35.out; omega⟩, ⟨by (try simp only [hl9_1]); (with_reducible repeat (first | apply rA | apply rN | apply rD)); exact HO_8.out⟩, ⟨by (try simp only [hl9_1]); (with_reducible repeat (first | apply rA | apply rN | apply rD)); exact HO_9.out⟩, ⟨by (try simp only [hl9_1]); (with_reducible repeat (first | apply Kd.V_alloc | apply Kd.V_drewN | apply Kd.V_drew)); exact HO_10.out⟩, ⟨by (try simp only [hl9_1]); (with_reducible repeat (first | apply rA | apply rN | apply rD)); exact HO_34.out⟩, ⟨by (try simp only [hl9_1]); (with_reducible repeat (first | refine kN ?_ _ | refine kD ?_ | refine kA ?_ _)); exact BK517.out⟩, ⟨zB_ HB⟩⟩
                replace c47 := Bool.eq_false_iff.mpr c47; subst c47
                have H1 : (if 0 ≤ (rd l0_1 (rd t530 x36_1)) then (if (rd l0_1 (rd t530 x36_1)) < (t519.length : Int) then (if 0 ≤ (rd t519 (rd l0_1 (rd t530 x36_1))) then (if (rd t519 (rd l0_1 (rd t530 x36_1))) < (x9_1.length : Int) then ((impl_along.f kj35 l0_0 l0_1 x10_1 (rd t530 x36_1)).bind fun t544 => ((impl_back.f kj35 t544).bind fun t548 => ((impl_conjAt.f kj35 l0_0 l0_1 x10_1 (rd t519 (rd l0_1 (rd t530 x36_1))) t548).bind fun t551 => (impl_CoverTree.l0 kj35 t519 (x9_1.set ((rd t519 (rd l0_1 (rd t530 x36_1))) : Int).toNat true) t551 t530 (t530.length : Int) (wrap64 (x36_1 + 1)) l0_0 l0_1)))) else (none)) else (none)) else (none)) else (none)) = some (r1, r2) := by rw [if_neg (show ¬ (false = true) by decide)] at H; exact H
                clear H; have H := H1; clear H1
                by_cases c48 : 0 ≤ (rd l0_1 (rd t530 x36_1))
                ·rw [if_pos c48] at H
                 have c48b0 := dT c48; clear c48
                 by_cases c49 : (rd l0_1 (rd t530 x36_1)) < (t519.length : Int)
                 ·rw [if_pos c49] at H
                  have c49b0 := dT c49; (try simp only [hl9_1] at c49b0); clear c49
                  by_cases c50 : 0 ≤ (rd t519 (rd l0_1 (rd t530 x36_1)))
                  ·rw [if_pos c50] at H
                   have c50b0 := dT c50; clear c50
                   by_cases c51 : (rd t519 (rd l0_1 (rd t530 x36_1))) < (x9_1.length : Int)
                   ·rw [if_pos c51] at H
                    have c51b0 := dT c51; (try simp only [hl9_1] at c51b0); clear c51
                    obtain ⟨y543, hy543⟩ : ∃ y_ : List Bool, y_ = (x9_1.set ((rd t519 (rd l0_1 (rd t530 x36_1))) : Int).toNat true) := ⟨_, rfl⟩
                    replace H : ((impl_along.f kj35 l0_0 l0_1 x10_1 (rd t530 x36_1)).bind fun t544 => ((impl_back.f kj35 t544).bind fun t548 => ((impl_conjAt.f kj35 l0_0 l0_1 x10_1 (rd t519 (rd l0_1 (rd t530 x36_1))) t548).bind fun t551 => (impl_CoverTree.l0 kj35 t519 y543 t551 t530 (t530.length : Int) (wrap64 (x36_1 + 1)) l0_0 l0_1)))) = some (r1, r2) := zH hy543 H
                    have Ny543 := A0_ hy543; clear hy543; obtain ⟨t544, A53, H⟩ := zbind H; obtain ⟨t548, A54, H⟩ := zbind H; obtain ⟨t551, A55, H⟩ := zbind H; have H' := A0_ H; clear H
                    have p542 : 0 ≤ ((rd l0_1 (rd t530 x36_1)) : Int) := zd
                    have q542 : (rd l0_1 (rd t530 x36_1)) < (t519.length : Int) := zd
                    obtain ⟨ad542, e542, hx542_0⟩ := tI (rR HO_8.out).2.2 (rd l0_1 (rd t530 x36_1)) p542 q542
                    obtain rfl : ad525 = ad542 := (by injection e542)
                    replace p542 := eq_true p542; replace q542 := eq_true q542
                    have p52 : 0 ≤ ((rd t519 (rd l0_1 (rd t530 x36_1))) : Int) := zd
                    have q52 : ((rd t519 (rd l0_1 (rd t530 x36_1))) : Int) < ((x9_1.length : Int) : Int) := zd
                    obtain ⟨hx52_0, hf52_0⟩ := Kd.R_celln false HO_9.out ((rd t519 (rd l0_1 (rd t530 x36_1))) : Int) p52 q52
                    replace p52 := eq_true p52; replace q52 := eq_true q52
                    have HP56 := Kd.R_putg HO_9.out ((rd t519 (rd l0_1 (rd t530 x36_1))) : Int) true
                    try go_wp2_with (first | ((with_reducible refine gS (t := 4) (p := 67) rfl ?_); refine store_event (t := 4) (p := 67) (v := ?vo_w57) (w1 := (wc.setCell ⟨go12, ((rd t519 (rd l0_1 (rd t530 x36_1))) : Int).toNat, none⟩ (.bool true))) ?hg ?ho ?hn ?hr ?_; (case ho => rfl); (case hg => rfl); (case hn => rfl); (case hr => first | (go_simp; done) | (go_simp; rfl)); intro w57 hw; have hg : wc.grownBy w57 (some go12) := (by rw [hw]; exact HP56.2); have hp_ : Kd.R Kd.bool 4 w57 w.heap.size (fun k_ => (w.heap.size ≤ k_)) (.slice (some ⟨go12, 0, none⟩) x9_1.length co12) y543 := (by rw [hw, Ny543.out]; exact HP56.1); clear HP56; replace HO_8 := A0_ (Kd.R_over' (v := (.slice (some ⟨go12, 0, none⟩) x9_1.length co12)) (zR_ HO_8) (Kd.R_typed HO_9.out) (by decide) hg); replace HO_10 := A0_ (Kd.V_afterv (v := (.slice (some ⟨go12, 0, none⟩) x9_1.length co12)) (v1 := (.slice (some ⟨go12, 0, none⟩) x9_1.length co12)) (ok := (fun k_ => (P2_ k_ ∨ w.heap.size ≤ k_) ∧ some k_ ≠ (.slice (some ad525) t519.length co23 : Value).ownBlock ∧ some k_ ≠ (.slice (some ad536) t530.length co30 : Value).ownBlock ∧ k_ ≠ gb517)) (by (with_reducible repeat (first | apply Kd.V_alloc | apply Kd.V_drewN | apply Kd.V_drew)); exact Kd.V_mono HO_10.out (fun _ hk => ⟨⟨hk.1, ⟨hk.2.1, ⟨hk.2.2.2.1, hk.2.2.2.2⟩⟩⟩, hk.2.2.1⟩)) hg (.inl rfl)); replace HO_34 := A0_ (Kd.R_over' (v := (.slice (some ⟨go12, 0, none⟩) x9_1.length co12)) (zR_ HO_34) (Kd.R_typed HO_9.out) (by decide) hg); replace BK517 := A0_ (blk_grown (g := gb517) (o := .cells #[.slice A0_0 l0_0.length c0_0, .slice (some ad537) l0_1.length c0_1] 25 (0, 0)) (zK_ BK517) hg (Kd.R_ne HO_9.out BK517.out (by decide))); replace HO_9 := A0_ (hp_); replace HB := A0_ ((by rw [hw]; exact bS (HB.out) GB12.out : Below w.heap.size w w57)); clear hg hw hp_; have hcz58_0 := zc0 BK517; have hcz58_1 := zc1 BK517; have hfz58_0 := kF BK517.out 0; have hfz58_1 := kF BK517.out 1; obtain ⟨Ao59, co59, eo59⟩ := Kd.V_slice HO_10.out; subst eo59) | ((with_reducible refine gC (f := 62) rfl ?_); refine zJ (some 71) Try.func62 #[.agg #[.slice A0_0 l0_0.length c0_0, .slice (some ad537) l0_1.length c0_1], .slice Ao59 x10_1.length co59, .int .i64 (rd t530 x36_1)] ?_; (with_reducible refine (impl_along.calls kj35 _ _ l0_0 _ _ l0_1 (fun k_ => (((P2_ k_ ∨ w.heap.size ≤ k_) ∧ (some k_ ≠ (.slice (some ad525) t519.length co23 : Value).ownBlock ∧ (some k_ ≠ (.slice (some ad536) t530.length co30 : Value).ownBlock ∧ k_ ≠ gb517))) ∧ some k_ ≠ (.slice (some ⟨go12, 0, none⟩) x9_1.length co12 : Value).ownBlock)) _ _ x10_1 (rd t530 x36_1) t544 _ ?side1 ?side2 ?side3 ?side4 ?side5 A53.out).mono ?_); (case side1 => exact zC HR0_0 HB); (case side2 => exact HC0_0.out); (case side3 => exact zC HR0_1 HB); (case side4 => exact HC0_1.out); (case side5 => exact HO_10.out); rintro e w60 ⟨v545, rfl, ho0, hb⟩; refine ⟨_, rfl, ?_⟩; replace HO_10 := A0_ (Kd.V_below (by (with_reducible repeat (first | apply Kd.V_alloc | apply Kd.V_drewN | apply Kd.V_drew)); exact HO_10.out) hb); have HO546 := A0_ (Kd.V_lower (Kd.V_mono (ok' := fun k_ => (P2_ k_ ∨ w.heap.size ≤ k_) ∧ some k_ ≠ (.slice (some ad525) t519.length co23 : Value).ownBlock ∧ some k_ ≠ (.slice (some ⟨go12, 0, none⟩) x9_1.length co12 : Value).ownBlock ∧ some k_ ≠ (.slice (some ad536) t530.length co30 : Value).ownBlock ∧ k_ ≠ gb517) ho0 (fun k_ hk_ => ⟨Or.elim hk_ (fun hs_ => hs_.1.1) (fun hn_ => (.inr (Nat.le_trans (bZ (zB_ HB)) hn_))), Or.elim hk_ (fun hs_ => hs_.1.2.1) (fun hn_ => (Kd.fresh' (rX (zR_ HO_8)) k_ hn_)), Or.elim hk_ (fun hs_ => hs_.2) (fun hn_ => (Kd.fresh' (rX (zR_ HO_9)) k_ hn_)), Or.elim hk_ (fun hs_ => hs_.1.2.2.1) (fun hn_ => (Kd.fresh' (rX (zR_ HO_34)) k_ hn_)), Or.elim hk_ (fun hs_ => hs_.1.2.2.2) (fun hn_ => (Kd.freshB (g := gb517) (o := .cells #[.slice A0_0 l0_0.length c0_0, .slice (some ad537) l0_1.length c0_1] 25 (0, 0)) (zK_ BK517) k_ hn_))⟩)) (bZ (zB_ HB))); replace HO_8 := zR HO_8 hb; replace HO_9 := zR HO_9 hb; replace HO_34 := zR HO_34 hb; replace BK517 := zK BK517 hb; replace HB := zB HB hb; (try clear hb); (try clear ho0)))
                    replace HO_8 := A0_ (rD HO_8.out)
                    replace HO_9 := A0_ (rD HO_9.out)
                    replace HO_10 := A0_ (Kd.V_drew HO_10.out)
                    replace HO_34 := A0_ (rD HO_34.out)
                    replace HO546 := A0_ (Kd.V_drew HO546.out)
                    replace BK517 := A0_ (kD BK517.out)
                    replace HB := A0_ (bD HB.out)
                    have p547 : 0 ≤ ((rd l0_1 (rd t530 x36_1)) : Int) := zd
                    have q547 : (rd l0_1 (rd t530 x36_1)) < (t519.length : Int) := zd
                    obtain ⟨ad547, e547, hx547_0⟩ := tI (rR HO_8.out).2.2 (rd l0_1 (rd t530 x36_1)) p547 q547
                    obtain rfl : ad525 = ad547 := (by injection e547)
                    replace p547 := eq_true p547; replace q547 := eq_true q547; obtain ⟨Ao62, co62, eo62⟩ := Kd.V_slice HO546.out
                    (first | subst eo62 | (injection eo62 with f1_ f2_ f3_; have f4_ := f1_.symm; have f5_ := f3_.symm; clear f1_ f2_ f3_; subst f4_; subst f5_))
                    refine start_ (n := 10) (S := fun w' => w'.cell? ⟨gb517, 0, none⟩ = some (.slice A0_0 l0_0.length c0_0) ∧ w'.cell? ⟨gb517, 1, none⟩ = some (.slice (some ad537) l0_1.length c0_1) ∧ w'.cell? (ad525.add ((rd l0_1 (rd t530 x36_1))).toNat) = some (.int .i64 (rd t519 (rd l0_1 (rd t530 x36_1))))) (ds := []) #[false, false, false, false, false, false, false, false, false, false] (by kernel_rfl) rfl rfl ⟨(kC BK517.out 0).trans rfl, (kC BK517.out 1).trans rfl, hx547_0⟩ (fun hHeld => ?_); refine with_tabW impl_CoverTree.tab14 impl_CoverTree.bits14 (fun HT_ HW_ => ?_)
                    generalize w60.drew = w61 at HO_8 HO_9 HO_10 HO_34 HO546 BK517 HB hx547_0 hHeld ⊢
                    refine zP 1 (some 73) #[false,true,false,false,false,false,false,false,false,false] ?_
                    refine zP 2 (some 74) #[false,true,true,false,false,false,false,false,false,false] ?_
                    refine zP 3 (some 75) #[false,true,true,true,false,false,false,false,false,false] ?_
                    refine zP 4 (some 76) #[false,true,true,true,true,false,false,false,false,false] ?_
                    refine zP 6 (some 78) #[false,true,true,true,true,false,true,false,false,false] ?_
                    refine take_ (i := 0) (N := some 72) (v := ?_) (a' := ?_) #[true, true, true, true, true, false, true, false, false, false] rfl rfl (take_ofW HT_.out HW_.out (by kernel_rfl)) (fun _ _ _ h => h) (Or.inl ⟨by rfl, ?_⟩) hHeld ?_ ?_
                    rotate_left
                    ·rintro w' ⟨s0, s1, s2⟩
                     go_simp
                     with_reducible rfl
                    rotate_left
                    ·simp only [Act.put, List.setIfInBounds_toArray, List.set_cons_zero, List.set_cons_succ, i64_w, i32_w]
                     rfl
                    refine take_ (i := 5) (N := some 77) (v := ?_) (a' := ?_) #[true, true, true, true, true, true, true, false, false, false] rfl rfl (take_ofW HT_.out HW_.out (by kernel_rfl)) (fun _ _ _ h => h) (Or.inl ⟨by rfl, ?_⟩) hHeld ?_ ?_
                    rotate_left
                    ·rintro w' ⟨s0, s1, s2⟩
                     go_simp
                     with_reducible rfl
                    rotate_left
                    ·simp only [Act.put, List.setIfInBounds_toArray, List.set_cons_zero, List.set_cons_succ, i64_w, i32_w]
                     rfl
                    refine one_ (i := 7) (N := some 79) #[true, true, true, true, true, true, true, true, false, false] rfl rfl (one_of HT_.out (by kernel_rfl)) (by decide) (fun K hK => ?_)
                    refine goes_ Try.func60 (by kernel_rfl) rfl #[.slice Ao62 t544.length co62] (by rfl) rfl rfl (by (try simp only [List.map_toArray, List.map_cons, List.map_nil]); first | done | rfl | (simp only [List.length_drop, List.length_take]; rfl)) ?_
                    with_reducible refine (impl_back.calls kj35 _ _ t544 t548 _ ?side1 ?side2 A54.out).mono ?_
                    (case side1 => repeat (first | exact (Kd.V_reads' HO546.out).2.2 | (with_reducible refine cA ?_ _) | (with_reducible refine cN ?_ _) | (with_reducible refine cD ?_)))
                    (case side2 => exact (Kd.V_reads' HO546.out).2.1)
                    rintro e w63 ⟨v549, rfl, ho0, hb⟩
                    have HS2_ := (hb.cell (wL _ _ (hHeld.2.2))).trans (hHeld.2.2)
                    refine ⟨_, rfl, ?_⟩
                    replace HO_9 := zR HO_9 hb
                    replace HO_10 := A0_ (Kd.V_elder' (by (with_reducible repeat (first | apply Kd.V_alloc | apply Kd.V_drewN | apply Kd.V_drew)); exact HO_10.out) (Kd.R_base ho0) hb)
                    replace HO546 := A0_ (Kd.V_elder' (by (with_reducible repeat (first | apply Kd.V_alloc | apply Kd.V_drewN | apply Kd.V_drew)); exact HO546.out) (Kd.R_base ho0) hb)
                    have HO550 := A0_ (rL (Kd.R_new' (Kd.R_new' (Kd.R_newM (M := fun k_ => (w.heap.size ≤ k_)) ho0 (bZ (zB_ HB)) (fun k_ h_ => h_)) (rX (zR_ HO_8))) (rX (zR_ HO_34))) (bZ (zB_ HB)))
                    replace HO_8 := A0_ (Kd.R_elder' (zR_ HO_8) (Kd.R_base ho0) hb)
                    replace HO_34 := A0_ (Kd.R_elder' (zR_ HO_34) (Kd.R_base ho0) hb)
                    replace BK517 := zK BK517 hb; replace HB := zB HB hb; (try clear hb); (try clear hb2); (try clear hk); (try clear hi); (try clear ho0); obtain ⟨Ao64, co64, eo64⟩ := rS HO550.out
                    (first | subst eo64 | (injection eo64 with f1_ f2_ f3_; have f4_ := f1_.symm; have f5_ := f3_.symm; clear f1_ f2_ f3_; subst f4_; subst f5_))
                    refine hK.out _ _ ⟨(kC BK517.out 0).trans rfl, (kC BK517.out 1).trans rfl, HS2_⟩ (fun hHeld => ?_)
                    clear hK K
                    refine norm_ (a' := ?_) ?_ ?_
                    rotate_left
                    ·show Act.put _ (some 79) _ = _
                     simp only [Act.put, List.setIfInBounds_toArray, List.set_cons_zero, List.set_cons_succ, i64_w, i32_w]
                     rfl
                    refine one_ (i := 8) (N := some 80) #[true, true, true, true, true, true, true, true, true, false] rfl rfl (one_of HT_.out (by kernel_rfl)) (by decide) (fun K hK => ?_)
                    refine goes_ Try.func63 (by kernel_rfl) rfl #[.agg #[.slice A0_0 l0_0.length c0_0, .slice (some ad537) l0_1.length c0_1], .slice Ao59 x10_1.length co59, .int .i64 (rd t519 (rd l0_1 (rd t530 x36_1))), .slice Ao64 t548.length co64] (by rfl) rfl rfl (by (try simp only [List.map_toArray, List.map_cons, List.map_nil]); first | done | rfl | (simp only [List.length_drop, List.length_take]; rfl)) ?_
                    with_reducible refine (impl_conjAt.calls kj35 _ _ l0_0 _ _ l0_1 _ _ x10_1 (rd t519 (rd l0_1 (rd t530 x36_1))) _ _ t548 t551 _ ?side1 ?side2 ?side3 ?side4 ?side5 ?side6 ?side7 ?side8 A55.out).mono ?_
                    (case side1 => exact zC HR0_0 HB)
                    (case side2 => exact HC0_0.out)
                    (case side3 => exact zC HR0_1 HB)
                    (case side4 => exact HC0_1.out)
                    (case side5 => repeat (first | exact (Kd.V_reads' HO_10.out).2.2 | (with_reducible refine cA ?_ _) | (with_reducible refine cN ?_ _) | (with_reducible refine cD ?_)))
                    (case side6 => exact (Kd.V_reads' HO_10.out).2.1)
                    (case side7 => exact zD HO550)
                    (case side8 => exact (rR HO550.out).2.1)
                    rintro e w65 ⟨v552, rfl, ho0, hb⟩
                    have HS2_ := (hb.cell (wL _ _ (hHeld.2.2))).trans (hHeld.2.2)
                    refine ⟨_, rfl, ?_⟩
                    replace HO_9 := zR HO_9 hb
                    replace HO_10 := A0_ (Kd.V_elder' (by (with_reducible repeat (first | apply Kd.V_alloc | apply Kd.V_drewN | apply Kd.V_drew)); exact HO_10.out) (Kd.S_base ho0) hb)
                    replace HO546 := A0_ (Kd.V_elder' (by (with_reducible repeat (first | apply Kd.V_alloc | apply Kd.V_drewN | apply Kd.V_drew)); exact HO546.out) (Kd.S_base ho0) hb)
                    have HO553 := A0_ (Kd.S_lower (Kd.S_new' (Kd.S_new' (Kd.S_new' (Kd.S_newM (M := fun k_ => (w.heap.size ≤ k_)) ho0 (bZ (zB_ HB)) (fun k_ h_ => h_)) (rX (zR_ HO_8))) (rX (zR_ HO_34))) (rX (zR_ HO550))) (bZ (zB_ HB)))
                    replace HO_8 := zR HO_8 hb; replace HO_34 := zR HO_34 hb; replace HO550 := zR HO550 hb; replace BK517 := zK BK517 hb; replace HB := zB HB hb; (try clear hb); (try clear hb2); (try clear hk); (try clear hi); (try clear ho0)
                    refine hK.out _ _ ⟨(kC BK517.out 0).trans rfl, (kC BK517.out 1).trans rfl, HS2_⟩ (fun hHeld => ?_)
                    clear hK K
                    refine norm_ (a' := ?_) ?_ ?_
                    rotate_left
                    ·show Act.put _ (some 80) _ = _
                     simp only [Act.put, List.setIfInBounds_toArray, List.set_cons_zero, List.set_cons_succ, i64_w, i32_w]
                     rfl
                    refine zP 9 (some 10) #[true,true,true,true,true,true,true,true,true,true] ?_
                    refine done_ (done_of HT_.out (by kernel_rfl)) ?_
                    try go_wp2
                    (try simp only [← hl9_1])
                    go_roundg kj35
                    case measure => have := HK1.out; have := HJ35.out; omega
                    case rel => exact ⟨(y543), (t551), (wrap64 (x36_1 + 1)), zt, H', ⟨by have := HK1.out; have := HJ35.out; omega⟩, ⟨by (try simp only [hl9_1]); (with_reducible repeat (first | apply rA | apply rN | apply rD)); exact rM HO_8.out (fun _ hk => ⟨hk.1.1, hk.1.2⟩)⟩, ⟨by (try simp only [hl9_1]); (with_reducible repeat (first | apply rA | apply rN | apply rD)); exact HO_9.out⟩, ⟨Kd.V_mono (Kd.S_V (ok := fun k_ => (w.heap.size ≤ k_) ∧ some k_ ≠ ((.slice (some ad525) t519.length co23) : Value).ownBlock ∧ some k_ ≠ ((.slice (some ⟨go12, 0, none⟩) x9_1.length co12) : Value).ownBlock ∧ some k_ ≠ ((.slice (some ad536) t530.length co30) : Value).ownBlock ∧ k_ ≠ gb517) (by (try simp only [hl9_1]); (with_reducible repeat (first | apply sA | apply sN | apply sD)); exact sM (Kd.S_types (Kd.S_apart' HO553.out (Kd.R_typed HO_9.out) (by decide)) BK517.out (by decide)) (fun _ hk => ⟨hk.1.1.1.1.1.1, ⟨hk.1.1.1.1.2, ⟨hk.1.2, ⟨hk.1.1.1.2, hk.2⟩⟩⟩⟩))) (fun k_ hk => by first | exact ⟨(.inr (hk.1)), hk.2⟩ | exact (.inr (hk)))⟩, ⟨by (try simp only [hl9_1]); (with_reducible repeat (first | apply rA | apply rN | apply rD)); exact rM HO_34.out (fun _ hk => ⟨hk.1.1, hk.1.2⟩)⟩, ⟨by (try simp only [hl9_1]); (with_reducible repeat (first | refine kN ?_ _ | refine kD ?_ | refine kA ?_ _)); exact BK517.out⟩, ⟨zB_ HB⟩⟩
                   rw [if_neg c51] at H
                   exact absurd H (by simp)
                  rw [if_neg c50] at H
                  exact absurd H (by simp)
                 rw [if_neg c49] at H
                 exact absurd H (by simp)
                rw [if_neg c48] at H
                exact absurd H (by simp)
             rw [if_neg c35] at H
             exact absurd H (by simp)
            rw [if_neg c34] at H
            exact absurd H (by simp)
           rw [if_neg c33] at H
           exact absurd H (by simp)
          rw [if_neg c32] at H
          exact absurd H (by simp)
         rw [if_neg c31] at H; have c31b0 := dF c31; (try simp only [hl9_1] at c31b0); clear c31; obtain ⟨t533, A66, H⟩ := zbind H; simp only [Option.some.injEq, Prod.mk.injEq] at H; obtain ⟨rfl, rfl⟩ := H; obtain ⟨Ao67, co67, eo67⟩ := Kd.V_slice HO_10.out; subst eo67
         go_wp2_with (first | ((with_reducible refine gC (f := 64) rfl ?_); refine zJ (some 83) Try.func64 #[.slice Ao67 x10_1.length co67] ?_; (with_reducible refine (impl_copyLists.calls k1 _ _ x10_1 t533 _ ?side1 ?side2 A66.out).mono ?_); (case side1 => repeat (first | exact (Kd.V_reads' HO_10.out).2.2 | (with_reducible refine cA ?_ _) | (with_reducible refine cN ?_ _) | (with_reducible refine cD ?_))); (case side2 => exact (Kd.V_reads' HO_10.out).2.1); rintro e w68 ⟨v534, rfl, ho0, hb⟩; refine ⟨_, rfl, ?_⟩; replace HO_9 := zR HO_9 hb; replace HO_10 := A0_ (Kd.V_elder' (by (with_reducible repeat (first | apply Kd.V_alloc | apply Kd.V_drewN | apply Kd.V_drew)); exact HO_10.out) (Kd.S_base ho0) hb); have HO535 := A0_ (Kd.S_lower (Kd.S_new' (Kd.S_new' (Kd.S_newM (M := fun k_ => (w.heap.size ≤ k_)) ho0 (bZ (zB_ HB)) (fun k_ h_ => h_)) (rX (zR_ HO_8))) (rX (zR_ HO_34))) (bZ (zB_ HB))); replace HO_8 := zR HO_8 hb; replace HO_34 := zR HO_34 hb; replace BK517 := zK BK517 hb; replace HB := zB HB hb; (try clear hb); (try clear ho0)))
         go_ret2
         exact ⟨_, by first | rfl | (simp [*] <;> rfl), zmS HO535 (fun _ hk => hk.1.1.1), zB_ HB⟩
      rw [if_neg c11] at H
      exact absurd H (by simp)
     rw [if_neg c10] at H
     exact absurd H (by simp)
    rw [if_neg c9] at H
    exact absurd H (by simp)
   rw [if_neg c8] at H
   exact absurd H (by simp)
  rw [if_neg c7] at H
  exact absurd H (by simp)
 replace c5 := Bool.eq_false_iff.mpr c5; subst c5
 have H1 : (some (([] : List (List Int)), false)) = some (r1, r2) := by rw [if_neg (show ¬ (false = true) by decide)] at H; exact H
 clear H; have H := H1; clear H1; simp only [Option.some.injEq, Prod.mk.injEq] at H; obtain ⟨rfl, rfl⟩ := H
 go_enter Try.func14, Try.ntmps14
 go_wp2_with (first | ((with_reducible refine gD (N := 3) rfl ?_); refine zX (N := 3) (cs := #[.slice A0_0 l0_0.length c0_0, .slice A0_1 l0_1.length c0_1]) (t := 25) ?_; intro gb517 hg w69 hbox hb; replace HO2 := A0_ (Kd.V_below (Kd.V_elderB (by (with_reducible repeat (first | apply Kd.V_alloc | apply Kd.V_drewN | apply Kd.V_drew)); exact HO2.out) gb517 (Nat.le_of_eq hg.symm)) hb); have BK517 := A0_ (hbox); have GW517 := zG hg HB; have GE517 := zG hg HB; replace HB := zB HB hb; clear hb hbox hg; have hcz70_0 := zc0 BK517; have hcz70_1 := zc1 BK517; have hfz70_0 := kF BK517.out 0; have hfz70_1 := kF BK517.out 1) | ((with_reducible refine gC (f := 53) rfl ?_); refine zJ (some 18) Try.func53 #[.agg #[.slice A0_0 l0_0.length c0_0, .slice A0_1 l0_1.length c0_1], .int .i64 a1, .slice A2 l2.length c2] ?_; (with_reducible refine (impl_VoltageValid.calls k _ _ l0_0 _ _ l0_1 a1 _ _ l2 false _ ?side1 ?side2 ?side3 ?side4 ?side5 ?side6 A4.out).mono ?_); (case side1 => exact zC HR0_0 HB); (case side2 => exact HC0_0.out); (case side3 => exact zC HR0_1 HB); (case side4 => exact HC0_1.out); (case side5 => repeat (first | exact (Kd.V_reads' HO2.out).2.2 | (with_reducible refine cA ?_ _) | (with_reducible refine cN ?_ _) | (with_reducible refine cD ?_))); (case side6 => exact (Kd.V_reads' HO2.out).2.1); rintro e w71 ⟨rfl, hb⟩; refine ⟨_, rfl, ?_⟩; replace HO2 := A0_ (Kd.V_below (by (with_reducible repeat (first | apply Kd.V_alloc | apply Kd.V_drewN | apply Kd.V_drew)); exact HO2.out) hb); replace BK517 := zK BK517 hb; replace HB := zB HB hb; (try clear hb)))
 go_ret2
 exact ⟨_, by first | rfl | (simp [*] <;> rfl), by first | exact Kd.S_nil _ _ _ _ _ | exact Kd.N_nil _ _ _ _ _ | exact Kd.V_nil _ _ _ _ _ | exact Kd.Q_nil _ _ _ _ _ | exact Kd.R_nil _ _ _ _ _, zB_ HB⟩

/-! ### laws_hasInt: function 15 -/
def laws_hasInt.l0 : Nat → List Int → Int → Int → Option (Bool)
  | 0, _, _, _ => none
  | k + 1, x0, x1, x5 => if x5 < (x0.length : Int) then (if 0 ≤ x5 then (if (rd x0 x5) = x1 then (some true) else (laws_hasInt.l0 k x0 x1 (wrap64 (x5 + 1)))) else (none)) else (some false)
def laws_hasInt.f (k : Nat) (l0 : List Int) (a1 : Int) : Option (Bool) := laws_hasInt.l0 k l0 a1 0
set_option maxHeartbeats 8000000 in
set_option maxRecDepth 100000 in
theorem laws_hasInt.calls (k : Nat) (A0 : Option Addr) (c0 : Nat) (l0 : List Int) (a1 : Int) (r : Bool) (w : World) (hr0 : Kd.C (Kd.int .i64) w A0 l0.length l0) (hc0 : l0.length ≤ c0) (h : laws_hasInt.f k l0 a1 = some r) :
    Calls Try.prog 15 #[.slice A0 l0.length c0, .int .i64 a1] w fun e w' => e = .returned (.bool r) ∧ Drawn0 w w' := by
 have HR0 := A0_ hr0; have HC0 := A0_ hc0; clear hr0 hc0
 have H : (laws_hasInt.l0 k l0 a1 0) = some r := h
 clear h; have H' := A0_ H; clear H
 go_enter Try.func15, Try.ntmps15
 go_wp2
 go_loopg [5] k (fun kq v5 w' => ∃ (x5_1 : Int), v5 = .int .i64 x5_1 ∧ Aside0 (laws_hasInt.l0 kq l0 a1 x5_1 = some r) ∧ Aside0 (kq ≤ k) ∧ Drawn0 w w')
 case atStart => exact ⟨(0), zt, H', ⟨Nat.le_refl _⟩, by repeat (first | exact Drawn0.refl _ | apply Drawn0.step)⟩
 case round =>
  clear H'; (try clear c1); (try clear p2); obtain ⟨x5_1, rfl, HA, HK1, ⟨m1, rfl⟩⟩ := hrel
  cases gk with
  | zero => exact absurd HA.out (by simp [laws_hasInt.l0])
  | succ k1 =>
   have H := HA.out; clear HA; simp only [laws_hasInt.l0] at H
   by_cases c3 : x5_1 < (l0.length : Int)
   ·rw [if_pos c3] at H
    have c3b0 := dT c3; clear c3
    by_cases c4 : 0 ≤ x5_1
    ·rw [if_pos c4] at H
     have c4b0 := dT c4; clear c4
     by_cases c5 : (rd l0 x5_1) = a1
     ·rw [if_pos c5] at H
      have c5b0 : ((rd l0 x5_1) == a1) = true := beq_iff_eq.mpr c5
      have c5b1 : ((rd l0 x5_1) != a1) = false := bne_eq_false_iff_eq.mpr c5
      clear c5; obtain rfl := sI H
      have p554 : 0 ≤ (x5_1 : Int) := zd
      have q554 : x5_1 < (l0.length : Int) := zd
      obtain ⟨ad554, e554, hx554_0⟩ := tI HR0.out x5_1 p554 q554
      cases e554
      replace p554 := eq_true p554; replace q554 := eq_true q554
      go_wp2
      go_ret
      exact ⟨by first | rfl | (simp; done) | (simp [*]; done), by repeat (first | exact Drawn0.refl _ | apply Drawn0.step)⟩
     rw [if_neg c5] at H
     have c5b0 : ((rd l0 x5_1) == a1) = false := beq_eq_false_iff_ne.mpr c5
     have c5b1 : ((rd l0 x5_1) != a1) = true := bne_iff_ne.mpr c5
     have H' := A0_ H; clear H
     have p554 : 0 ≤ (x5_1 : Int) := zd
     have q554 : x5_1 < (l0.length : Int) := zd
     obtain ⟨ad554, e554, hx554_0⟩ := tI HR0.out x5_1 p554 q554
     cases e554
     replace p554 := eq_true p554; replace q554 := eq_true q554
     go_wp2
     go_roundg k1
     case measure => have := HK1.out; omega
     case rel => exact ⟨(wrap64 (x5_1 + 1)), zt, H', ⟨by have := HK1.out; omega⟩, by repeat (first | exact Drawn0.refl _ | apply Drawn0.step)⟩
    rw [if_neg c4] at H
    exact absurd H (by simp)
   rw [if_neg c3] at H; have c3b0 := dF c3; clear c3; obtain rfl := sI H
   go_wp2
   go_ret
   exact ⟨by first | rfl | (simp; done) | (simp [*]; done), by repeat (first | exact Drawn0.refl _ | apply Drawn0.step)⟩

end Go.Proofs.Ytmegggomhjgehaa.PFnCoverWhole
