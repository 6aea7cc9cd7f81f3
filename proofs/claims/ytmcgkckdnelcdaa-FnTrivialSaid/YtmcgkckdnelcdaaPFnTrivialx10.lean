-- Made by a program of this session (wip/tools) out of the loaded program; not trusted: Lean checks it.
import Derived.Test.YtmcgkckdnelcdaaPFnTrivialx0
import Derived.Test.YtmcgkckdnelcdaaPFnTrivialx4
import Derived.Test.YtmcgkckdnelcdaaPFnTrivialx5
import Derived.Test.YtmcgkckdnelcdaaPFnTrivialx8
import Derived.Test.YtmcgkckdnelcdaaPFnTrivialx9
-- packed
namespace Go.Proofs.Ytmcgkckdnelcdaa.PFnTrivial
open Go.RowKit Go.Proofs.YtmcgkckdnelcdaaW.PrintWords Go.Proofs.YtmcgkckdnelcdaaW.PrintLast Go.Proofs.YtmcgkckdnelcdaaW.PrintMore
attribute [local go_sem] max2_int min2_int max_two min_two max_three min_three max_four min_four   -- for this text's walks alone
set_option linter.unusedVariables false
set_option linter.unusedSimpArgs false

/-! ### impl_CoverTree: function 50 -/
mutual
def impl_CoverTree.l0 : Nat → List Int → List Bool → List (List Int) → List Int → Int → Int → List Int → List Int → Option ((List (List Int)) × Bool)
  | 0, _, _, _, _, _, _, _, _ => none
  | k + 1, x8, x9, x10, x34, x35, x36, x406000, x406001 => if x36 < x35 then (if 0 ≤ x36 then (if x36 < (x34.length : Int) then (if 0 ≤ (rd x34 x36) then (if (rd x34 x36) < (x406001.length : Int) then (if (rd x34 x36) < (x8.length : Int) then (if 0 ≤ (rd x8 (rd x34 x36)) then (if (rd x8 (rd x34 x36)) < (x9.length : Int) then (if (rdOf false x9 (rd x8 (rd x34 x36)) = true) then (if 0 ≤ (rd x406001 (rd x34 x36)) then (if (rd x406001 (rd x34 x36)) < (x8.length : Int) then (if 0 ≤ (rd x8 (rd x406001 (rd x34 x36))) then (if (rd x8 (rd x406001 (rd x34 x36))) < (x9.length : Int) then (impl_CoverTree.j1 k x8 x9 x10 (rd x34 x36) (rd x406001 (rd x34 x36)) x34 x35 x36 (rdOf false x9 (rd x8 (rd x406001 (rd x34 x36)))) x406000 x406001) else (none)) else (none)) else (none)) else (none)) else (impl_CoverTree.j1 k x8 x9 x10 (rd x34 x36) (rd x406001 (rd x34 x36)) x34 x35 x36 true x406000 x406001)) else (none)) else (none)) else (none)) else (none)) else (none)) else (none)) else (none)) else ((impl_copyLists.f k x10).bind fun t421 => (some (t421, true)))
def impl_CoverTree.j1 : Nat → List Int → List Bool → List (List Int) → Int → Int → List Int → Int → Int → Bool → List Int → List Int → Option ((List (List Int)) × Bool)
  | 0, _, _, _, _, _, _, _, _, _, _, _ => none
  | k + 1, x8, x9, x10, x12, x13, x34, x35, x36, x61, x406000, x406001 => if x61 = true then (impl_CoverTree.l0 k x8 x9 x10 x34 x35 (wrap64 (x36 + 1)) x406000 x406001) else (if 0 ≤ x13 then (if x13 < (x8.length : Int) then (if 0 ≤ (rd x8 x13) then (if (rd x8 x13) < (x9.length : Int) then ((impl_along.f k x406000 x406001 x10 x12).bind fun t432 => ((impl_back.f k t432).bind fun t436 => ((impl_conjAt.f k x406000 x406001 x10 (rd x8 x13) t436).bind fun t439 => (impl_CoverTree.l0 k x8 (x9.set ((rd x8 x13) : Int).toNat true) t439 x34 x35 (wrap64 (x36 + 1)) x406000 x406001)))) else (none)) else (none)) else (none)) else (none))
end
def impl_CoverTree.f (k : Nat) (l0_0 : List Int) (l0_1 : List Int) (a1 : Int) (l2 : List (List Int)) : Option ((List (List Int)) × Bool) := (impl_VoltageValid.f k l0_0 l0_1 a1 l2).bind fun t406 => (if t406 = true then ((impl_vertexOf.f k l0_0 l0_1).bind fun t407 => (if 0 ≤ (l0_0.length : Int) then (if ((l0_0.length : Int) : Int).toNat ≤ 281474976710656 then ((some (List.replicate ((l0_0.length : Int) : Int).toNat false : List Bool)).bind fun y410 => (if 0 < (t407.length : Int) then (if 0 ≤ (rd t407 0) then (if (rd t407 0) < (y410.length : Int) then ((impl_namesFrom.f k l0_0 l0_1 0).bind fun t415 => ((impl_back.f k t415).bind fun t418 => (impl_CoverTree.l0 k t407 (y410.set ((rd t407 0) : Int).toNat true) l2 t418 (t418.length : Int) 0 l0_0 l0_1))) else (none)) else (none)) else (none))) else (none)) else (none))) else (some (([] : List (List Int)), false)))
def impl_CoverTree.T14 : Bool × List (List Nat × List Nat) := (true, [([], []), ([], []), ([], []), ([], []), ([2, 3], [2, 3]), ([4], [4]), ([], []), ([6], [6]), ([0, 1, 5, 7, 7], [0, 1, 5, 7]), ([8, 8, 0, 1, 2, 3, 4, 5, 6, 7, 8], [1, 8])])
def impl_CoverTree.B14 : List Nat := [0, 0, 0, 0, 12, 28, 0, 64, 255, 511]
theorem impl_CoverTree.tab14 : rtab .any (opsOf Try.f50 14) = impl_CoverTree.T14 := by kernel_rfl
theorem impl_CoverTree.bits14 : waitsOk impl_CoverTree.T14.2 impl_CoverTree.B14 = true := by kernel_rfl
set_option maxHeartbeats 8000000 in
set_option maxRecDepth 100000 in
theorem impl_CoverTree.calls (k : Nat) (A0_0 : Option Addr) (c0_0 : Nat) (l0_0 : List Int) (A0_1 : Option Addr) (c0_1 : Nat) (l0_1 : List Int) (a1 : Int) (P2_ : Nat → Prop) (A2 : Option Addr) (c2 : Nat) (l2 : List (List Int)) (r1 : List (List Int)) (r2 : Bool) (w : World) (hr0_0 : Kd.C (Kd.int .i64) w A0_0 l0_0.length l0_0) (hc0_0 : l0_0.length ≤ c0_0) (hr0_1 : Kd.C (Kd.int .i64) w A0_1 l0_1.length l0_1) (hc0_1 : l0_1.length ≤ c0_1) (hs2 : Kd.V (Kd.slice 3 (Kd.int .i64)) 22 w w.heap.size (fun k_ => P2_ k_) (.slice A2 l2.length c2) l2) (h : impl_CoverTree.f k l0_0 l0_1 a1 l2 = some (r1, r2)) :
    Calls Try.prog 50 #[.agg #[.slice A0_0 l0_0.length c0_0, .slice A0_1 l0_1.length c0_1], .int .i64 a1, .slice A2 l2.length c2] w fun e w' => ∃ v0_ : Value, e = .returned (.tuple #[v0_, .bool r2]) ∧ Kd.S (Kd.slice 3 (Kd.int .i64)) 22 w' w.heap.size (fun k_ => (w.heap.size ≤ k_)) v0_ r1 ∧ Below w.heap.size w w' := by
 have hu29 := Try.underlying29; have HR0_0 := A0_ hr0_0; have HC0_0 := A0_ hc0_0; clear hr0_0 hc0_0; have HR0_1 := A0_ hr0_1; have HC0_1 := A0_ hc0_1; clear hr0_1 hc0_1
 have HO2 := A0_ (show Kd.V (Kd.slice 3 (Kd.int .i64)) 22 w w.heap.size (fun k_ => (P2_ k_ ∨ w.heap.size ≤ k_)) (.slice A2 l2.length c2) l2 from Kd.V_mono hs2 (fun k_ hk => .inl hk))
 have HB := A0_ (Below.refl w.heap.size w)
 have H : ((impl_VoltageValid.f k l0_0 l0_1 a1 l2).bind fun t406 => (if t406 = true then ((impl_vertexOf.f k l0_0 l0_1).bind fun t407 => (if 0 ≤ (l0_0.length : Int) then (if ((l0_0.length : Int) : Int).toNat ≤ 281474976710656 then ((some (List.replicate ((l0_0.length : Int) : Int).toNat false : List Bool)).bind fun y410 => (if 0 < (t407.length : Int) then (if 0 ≤ (rd t407 0) then (if (rd t407 0) < (y410.length : Int) then ((impl_namesFrom.f k l0_0 l0_1 0).bind fun t415 => ((impl_back.f k t415).bind fun t418 => (impl_CoverTree.l0 k t407 (y410.set ((rd t407 0) : Int).toNat true) l2 t418 (t418.length : Int) 0 l0_0 l0_1))) else (none)) else (none)) else (none))) else (none)) else (none))) else (some (([] : List (List Int)), false)))) = some (r1, r2) := h
 clear h; obtain ⟨t406, A4, H⟩ := zbind H
 by_cases c5 : t406 = true
 ·subst c5
  have H1 : ((impl_vertexOf.f k l0_0 l0_1).bind fun t407 => (if 0 ≤ (l0_0.length : Int) then (if ((l0_0.length : Int) : Int).toNat ≤ 281474976710656 then ((some (List.replicate ((l0_0.length : Int) : Int).toNat false : List Bool)).bind fun y410 => (if 0 < (t407.length : Int) then (if 0 ≤ (rd t407 0) then (if (rd t407 0) < (y410.length : Int) then ((impl_namesFrom.f k l0_0 l0_1 0).bind fun t415 => ((impl_back.f k t415).bind fun t418 => (impl_CoverTree.l0 k t407 (y410.set ((rd t407 0) : Int).toNat true) l2 t418 (t418.length : Int) 0 l0_0 l0_1))) else (none)) else (none)) else (none))) else (none)) else (none))) = some (r1, r2) := by rw [if_pos rfl] at H; exact H
  clear H; have H := H1; clear H1; obtain ⟨t407, A6, H⟩ := zbind H
  by_cases c7 : 0 ≤ (l0_0.length : Int)
  ·rw [if_pos c7] at H
   have c7b0 := eq_true c7; have c7b1 := dT c7; clear c7
   by_cases c8 : ((l0_0.length : Int) : Int).toNat ≤ 281474976710656
   ·rw [if_pos c8] at H
    have c8b0 := eq_true c8; have c8b1 := dT c8; clear c8
    obtain ⟨y410, hy410⟩ : ∃ y_ : List Bool, y_ = (List.replicate ((l0_0.length : Int) : Int).toNat false) := ⟨_, rfl⟩
    replace H : (if 0 < (t407.length : Int) then (if 0 ≤ (rd t407 0) then (if (rd t407 0) < (y410.length : Int) then ((impl_namesFrom.f k l0_0 l0_1 0).bind fun t415 => ((impl_back.f k t415).bind fun t418 => (impl_CoverTree.l0 k t407 (y410.set ((rd t407 0) : Int).toNat true) l2 t418 (t418.length : Int) 0 l0_0 l0_1))) else (none)) else (none)) else (none)) = some (r1, r2) := zH hy410 H
    have Ny410 := A0_ hy410; clear hy410
    by_cases c9 : 0 < (t407.length : Int)
    ·rw [if_pos c9] at H
     have c9b0 := dT c9
     have c9b1 : decide (0 < t407.length) = true := dT (by omega)
     clear c9
     by_cases c10 : 0 ≤ (rd t407 0)
     ·rw [if_pos c10] at H
      have c10b0 := dT c10; clear c10
      by_cases c11 : (rd t407 0) < (y410.length : Int)
      ·rw [if_pos c11] at H
       have c11b0 := dT c11; clear c11
       obtain ⟨y414, hy414⟩ : ∃ y_ : List Bool, y_ = (y410.set ((rd t407 0) : Int).toNat true) := ⟨_, rfl⟩
       replace H : ((impl_namesFrom.f k l0_0 l0_1 0).bind fun t415 => ((impl_back.f k t415).bind fun t418 => (impl_CoverTree.l0 k t407 y414 l2 t418 (t418.length : Int) 0 l0_0 l0_1))) = some (r1, r2) := zH hy414 H
       have Ny414 := A0_ hy414; clear hy414; obtain ⟨t415, A13, H⟩ := zbind H; obtain ⟨t418, A14, H⟩ := zbind H; have H' := A0_ H; clear H
       go_enter Try.func50, Try.ntmps50
       go_wp2_with (first | ((with_reducible refine gD (N := 3) rfl ?_); refine zX (N := 3) (cs := #[.slice A0_0 l0_0.length c0_0, .slice A0_1 l0_1.length c0_1]) (t := 29) ?_; intro gb405 hg w15 hbox hb; replace HO2 := A0_ (Kd.V_below (Kd.V_elderB (by (with_reducible repeat (first | apply Kd.V_alloc | apply Kd.V_drewN | apply Kd.V_drew)); exact HO2.out) gb405 (Nat.le_of_eq hg.symm)) hb); have BK405 := A0_ (hbox); have GW405 := zG hg HB; have GE405 := zG hg HB; replace HB := zB HB hb; clear hb hbox hg; have hcz16_0 := zc0 BK405; have hcz16_1 := zc1 BK405; have hfz16_0 := kF BK405.out 0; have hfz16_1 := kF BK405.out 1) | ((with_reducible refine gC (f := 20) rfl ?_); refine zJ (some 18) Try.func20 #[.agg #[.slice A0_0 l0_0.length c0_0, .slice A0_1 l0_1.length c0_1], .int .i64 a1, .slice A2 l2.length c2] ?_; (with_reducible refine (impl_VoltageValid.calls k _ _ l0_0 _ _ l0_1 a1 _ _ l2 true _ ?side1 ?side2 ?side3 ?side4 ?side5 ?side6 A4.out).mono ?_); (case side1 => exact zC HR0_0 HB); (case side2 => exact HC0_0.out); (case side3 => exact zC HR0_1 HB); (case side4 => exact HC0_1.out); (case side5 => repeat (first | exact (Kd.V_reads' HO2.out).2.2 | (with_reducible refine cA ?_ _) | (with_reducible refine cN ?_ _) | (with_reducible refine cD ?_))); (case side6 => exact (Kd.V_reads' HO2.out).2.1); rintro e w17 ⟨rfl, hb⟩; refine ⟨_, rfl, ?_⟩; replace HO2 := A0_ (Kd.V_below (by (with_reducible repeat (first | apply Kd.V_alloc | apply Kd.V_drewN | apply Kd.V_drew)); exact HO2.out) hb); replace BK405 := zK BK405 hb; replace HB := zB HB hb; (try clear hb); have hcz18_0 := zc0 BK405; have hcz18_1 := zc1 BK405; have hfz18_0 := kF BK405.out 0; have hfz18_1 := kF BK405.out 1) | ((with_reducible refine gC (f := 84) rfl ?_); refine zJ (some 21) Try.func84 #[.agg #[.slice A0_0 l0_0.length c0_0, .slice A0_1 l0_1.length c0_1]] ?_; (with_reducible refine (impl_vertexOf.calls k _ _ l0_0 _ _ l0_1 t407 _ ?side1 ?side2 ?side3 ?side4 A6.out).mono ?_); (case side1 => exact zC HR0_0 HB); (case side2 => exact HC0_0.out); (case side3 => exact zC HR0_1 HB); (case side4 => exact HC0_1.out); rintro e w19 ⟨v408, rfl, ho0, hb⟩; refine ⟨_, rfl, ?_⟩; replace HO2 := A0_ (Kd.V_elder' (by (with_reducible repeat (first | apply Kd.V_alloc | apply Kd.V_drewN | apply Kd.V_drew)); exact HO2.out) (Kd.R_base ho0) hb); have HO409 := A0_ (rL (Kd.R_newM (M := fun k_ => (w.heap.size ≤ k_)) ho0 (bZ (zB_ HB)) (fun k_ h_ => h_)) (bZ (zB_ HB))); replace BK405 := zK BK405 hb; replace HB := zB HB hb; (try clear hb); (try clear ho0); have hcz20_0 := zc0 BK405; have hcz20_1 := zc1 BK405; have hfz20_0 := kF BK405.out 0; have hfz20_1 := kF BK405.out 1) | ((with_reducible refine gD (N := 25) rfl ?_); refine Kd.R_make Kd.bool _ 4 rfl (N := 25) rfl 75 _ _ rfl (l0_0.length : Int) rfl rfl Try.underlying75 (.bool false) 1 info4 rfl (by decide) (by omega) false (ok := fun _ => True) (okp := fun _ => True) rfl (fun _ hk => hk) trivial (zd) (Nat.le_trans (Nat.mul_le_mul_right _ (zd : (l0_0.length : Int).toNat ≤ 281474976710656)) (by omega)) (Below.refl _ _) (Nat.le_refl _) ?_; intro v411 w21 ho22 hb hg_ hnew_; clear hg_ hnew_; (first | rw [← Ny410.out] at ho22 | (simp only [Int.reduceToNat] at ho22; rw [← Ny410.out] at ho22)); replace HO2 := A0_ (Kd.V_elder' (by (with_reducible repeat (first | apply Kd.V_alloc | apply Kd.V_drewN | apply Kd.V_drew)); exact HO2.out) (Kd.R_base ho22) hb); replace HO409 := zR HO409 hb; have HO412 := A0_ (rL (Kd.R_newM (M := fun k_ => (w.heap.size ≤ k_)) ho22 (bZ (zB_ HB)) (fun k_ h_ => h_)) (bZ (zB_ HB))); replace BK405 := zK BK405 hb; replace HB := zB HB hb; clear hb ho22; obtain ⟨Ao23, co23, eo23⟩ := rS HO409.out; subst eo23; have p413 : 0 ≤ (0 : Int) := (by omega); have q413 : 0 < (t407.length : Int) := zd; obtain ⟨ad413, e413, hx413_0⟩ := tI (rR HO409.out).2.2 0 p413 q413; cases e413; have qi413 : (0 < t407.length) = True := eq_true (by omega); (try rw [show ((0 : Int)).toNat = 0 from rfl] at hx413_0); (try rw [Addr.add_zero'] at hx413_0); replace p413 := eq_true p413; replace q413 := eq_true q413; have p12 : 0 ≤ ((rd t407 0) : Int) := zd; have q12 : ((rd t407 0) : Int) < ((y410.length : Int) : Int) := zd; obtain ⟨go12, co12, eo12, gb12, gl12, cl12, HG12⟩ := Kd.R_form HO412.out (by omega); (first | cases eo12 | (injection eo12 with ea_ en_ ec_; (first | subst ea_ | (injection ea_ with ea_; subst ea_)); subst ec_; clear en_)); have GB12 := A0_ gb12; have GG12 := A0_ HG12; clear gb12 gl12 HG12; obtain ⟨hx12_0, hf12_0⟩ := Kd.R_celln false HO412.out ((rd t407 0) : Int) p12 q12; replace p12 := eq_true p12; replace q12 := eq_true q12; have n_ := A0_ (rM (ok' := (fun k_ => (w.heap.size ≤ k_))) HO412.out (fun k_ hk => hk.1)); clear HO412; have HO412 := n_; clear n_; obtain ⟨hy24_, hz24_⟩ := Kd.R_celln false HO412.out ((rd t407 0) : Int) (zd) (zd); have HP24 := Kd.R_putg HO412.out ((rd t407 0) : Int) true) | ((with_reducible refine gS (t := 4) (p := 30) rfl ?_); refine store_event (t := 4) (p := 30) (v := ?vo_w25) (w1 := (w21.setCell ⟨go12, ((rd t407 0) : Int).toNat, none⟩ (.bool true))) ?hg ?ho ?hn ?hr ?_; (case ho => rfl); (case hg => rfl); (case hn => rfl); (case hr => first | (go_simp; done) | (go_simp; rfl)); intro w25 hw; have hg : w21.grownBy w25 (some go12) := (by rw [hw]; exact HP24.2); have hp_ : Kd.R Kd.bool 4 w25 w.heap.size (fun k_ => (w.heap.size ≤ k_)) (.slice (some ⟨go12, 0, none⟩) y410.length co12) y414 := (by rw [hw, Ny414.out]; exact HP24.1); clear HP24; replace HO2 := A0_ (Kd.V_afterv (v := (.slice (some ⟨go12, 0, none⟩) y410.length co12)) (v1 := (.slice (some ⟨go12, 0, none⟩) y410.length co12)) (ok := (fun k_ => (P2_ k_ ∨ w.heap.size ≤ k_) ∧ some k_ ≠ (.slice (some ad413) t407.length co23 : Value).ownBlock ∧ k_ ≠ gb405)) (by (with_reducible repeat (first | apply Kd.V_alloc | apply Kd.V_drewN | apply Kd.V_drew)); exact Kd.V_mono HO2.out (fun _ hk => ⟨⟨hk.1.1.1, ⟨hk.1.2, hk.1.1.2⟩⟩, hk.2⟩)) hg (.inl rfl)); replace BK405 := A0_ (blk_grown (g := gb405) (o := .cells #[.slice A0_0 l0_0.length c0_0, .slice A0_1 l0_1.length c0_1] 29 (0, 0)) (zK_ BK405) hg (Kd.R_ne HO412.out BK405.out (by decide))); replace HO409 := A0_ (Kd.R_over' (v := (.slice (some ⟨go12, 0, none⟩) y410.length co12)) (zR_ HO409) (Kd.R_typed HO412.out) (by decide) hg); replace HO412 := A0_ (hp_); replace HB := A0_ ((by rw [hw]; exact bS (HB.out) GB12.out : Below w.heap.size w w25)); clear hg hw hp_; have hcz26_0 := zc0 BK405; have hcz26_1 := zc1 BK405; have hfz26_0 := kF BK405.out 0; have hfz26_1 := kF BK405.out 1) | ((with_reducible refine gC (f := 90) rfl ?_); refine zJ (some 33) Try.func90 #[.agg #[.slice A0_0 l0_0.length c0_0, .slice A0_1 l0_1.length c0_1], .int .i64 0] ?_; (with_reducible refine (impl_namesFrom.calls k _ _ l0_0 _ _ l0_1 0 t415 _ ?side1 ?side2 ?side3 ?side4 A13.out).mono ?_); (case side1 => exact zC HR0_0 HB); (case side2 => exact HC0_0.out); (case side3 => exact zC HR0_1 HB); (case side4 => exact HC0_1.out); rintro e w27 ⟨v416, rfl, ho0, hb⟩; refine ⟨_, rfl, ?_⟩; replace HO2 := A0_ (Kd.V_elder' (by (with_reducible repeat (first | apply Kd.V_alloc | apply Kd.V_drewN | apply Kd.V_drew)); exact HO2.out) (Kd.R_base ho0) hb); replace HO412 := zR HO412 hb; have HO417 := A0_ (rL (Kd.R_new' (Kd.R_newM (M := fun k_ => (w.heap.size ≤ k_)) ho0 (bZ (zB_ HB)) (fun k_ h_ => h_)) (rX (zR_ HO409))) (bZ (zB_ HB))); replace HO409 := A0_ (Kd.R_elder' (zR_ HO409) (Kd.R_base ho0) hb); replace BK405 := zK BK405 hb; replace HB := zB HB hb; (try clear hb); (try clear ho0); obtain ⟨Ao28, co28, eo28⟩ := rS HO417.out; subst eo28) | ((with_reducible refine gC (f := 89) rfl ?_); refine zJ (some 34) Try.func89 #[.slice Ao28 t415.length co28] ?_; (with_reducible refine (impl_back.calls k _ _ t415 t418 _ ?side1 ?side2 A14.out).mono ?_); (case side1 => exact zD HO417); (case side2 => exact (rR HO417.out).2.1); rintro e w29 ⟨v419, rfl, ho0, hb⟩; refine ⟨_, rfl, ?_⟩; replace HO2 := A0_ (Kd.V_elder' (by (with_reducible repeat (first | apply Kd.V_alloc | apply Kd.V_drewN | apply Kd.V_drew)); exact HO2.out) (Kd.R_base ho0) hb); replace HO412 := zR HO412 hb; have HO420 := A0_ (rL (Kd.R_new' (Kd.R_new' (Kd.R_newM (M := fun k_ => (w.heap.size ≤ k_)) ho0 (bZ (zB_ HB)) (fun k_ h_ => h_)) (rX (zR_ HO409))) (rX (zR_ HO417))) (bZ (zB_ HB))); replace HO409 := A0_ (Kd.R_elder' (zR_ HO409) (Kd.R_base ho0) hb); replace HO417 := A0_ (Kd.R_elder' (zR_ HO417) (Kd.R_base ho0) hb); replace BK405 := zK BK405 hb; replace HB := zB HB hb; (try clear hb); (try clear ho0); obtain ⟨Ao30, co30, eo30⟩ := rS HO420.out; subst eo30))
       go_loopg [10, 36] k (fun kq v10 v36 w' => ∃ (x9_1 : List Bool) (x10_1 : List (List Int)) (x36_1 : Int), v36 = .int .i64 x36_1 ∧ Aside0 (impl_CoverTree.l0 kq t407 x9_1 x10_1 t418 (t418.length : Int) x36_1 l0_0 l0_1 = some (r1, r2)) ∧ Aside0 (kq ≤ k) ∧ Aside0 (Kd.R (Kd.int .i64) 3 w' w.heap.size (fun k_ => (w.heap.size ≤ k_) ∧ some k_ ≠ ((.slice Ao30 t418.length co30) : Value).ownBlock) (.slice (some ad413) t407.length co23) t407) ∧ Aside0 (Kd.R Kd.bool 4 w' w.heap.size (fun k_ => (w.heap.size ≤ k_)) (.slice (some ⟨go12, 0, none⟩) y410.length co12) x9_1) ∧ Aside0 (Kd.V (Kd.slice 3 (Kd.int .i64)) 22 w' w.heap.size (fun k_ => (P2_ k_ ∨ w.heap.size ≤ k_) ∧ some k_ ≠ ((.slice (some ad413) t407.length co23) : Value).ownBlock ∧ some k_ ≠ ((.slice (some ⟨go12, 0, none⟩) y410.length co12) : Value).ownBlock ∧ some k_ ≠ ((.slice Ao30 t418.length co30) : Value).ownBlock ∧ k_ ≠ gb405) v10 x10_1) ∧ Aside0 (Kd.R (Kd.int .i64) 3 w' w.heap.size (fun k_ => (w.heap.size ≤ k_) ∧ some k_ ≠ ((.slice (some ad413) t407.length co23) : Value).ownBlock) (.slice Ao30 t418.length co30) t418) ∧ Aside0 (w'.heap[gb405]? = some (.cells #[(.slice A0_0 l0_0.length c0_0), (.slice A0_1 l0_1.length c0_1)] 29 (0, 0))) ∧ Aside0 (Below w.heap.size w w'))
       case atStart => exact ⟨(y414), (l2), (0), zt, H', ⟨Nat.le_refl _⟩, ⟨zmR HO409 (fun _ hk => ⟨hk.1.1.1, hk.2⟩)⟩, ⟨zR_ HO412⟩, ⟨by (with_reducible repeat (first | apply Kd.V_alloc | apply Kd.V_drewN | apply Kd.V_drew)); exact Kd.V_mono HO2.out (fun _ hk => ⟨hk.1.1.1.1, ⟨hk.1.1.1.2.1, ⟨hk.1.1.2, ⟨hk.2, hk.1.1.1.2.2⟩⟩⟩⟩)⟩, ⟨zmR HO420 (fun _ hk => ⟨hk.1.1.1, hk.1.2⟩)⟩, ⟨zK_ BK405⟩, ⟨zB_ HB⟩⟩
       case round =>
        clear H'; (try clear c1); (try clear p1); (try clear q1); (try clear hx1); (try clear c2); (try clear p2); (try clear p4); (try clear q4); (try clear hx4); (try clear qi4); (try clear c5); (try clear c7); (try clear c7b0); (try clear c7b1); (try clear c8); (try clear c8b0); (try clear c8b1); (try clear c9); (try clear c9b0); (try clear c9b1); (try clear c10); (try clear c10b0); (try clear c11); (try clear c11b0); (try clear p12); (try clear q12); (try clear hx12); (try clear hf12); (try clear c20); (try clear hcz16_0); (try clear hcz16_1); (try clear hcz18_0); (try clear hcz18_1); (try clear hcz20_0); (try clear hcz20_1); (try clear hcz26_0); (try clear hcz26_1); (try clear hfz16_0); (try clear hfz16_1); (try clear hfz18_0); (try clear hfz18_1); (try clear hfz20_0); (try clear hfz20_1); (try clear hfz26_0); (try clear hfz26_1); (try clear hx12_0); (try clear hx413_0); (try clear p12); (try clear p413); (try clear q12); (try clear q413); obtain ⟨x9_1, x10_1, x36_1, rfl, HA, HK1, HO_8, HO_9, HO_10, HO_34, BK405, HB⟩ := hrel; have hl9_1 := (rR HO_9.out).1; rw [hl9_1] at HO_9; (try simp only [hl9_1]); (try simp only [hl9_1] at BK405); (try simp only [hl9_1] at HO_8); (try simp only [hl9_1] at HO_10); (try simp only [hl9_1] at HO_34)
        cases gk with
        | zero => exact absurd HA.out (by simp [impl_CoverTree.l0])
        | succ k1 =>
         have H := HA.out; clear HA; simp only [impl_CoverTree.l0] at H
         by_cases c31 : x36_1 < (t418.length : Int)
         ·rw [if_pos c31] at H
          have c31b0 := dT c31; (try simp only [hl9_1] at c31b0); clear c31
          by_cases c32 : 0 ≤ x36_1
          ·rw [if_pos c32] at H
           have c32b0 := dT c32; clear c32
           by_cases c33 : x36_1 < (t418.length : Int)
           ·rw [if_pos c33] at H
            have c33b0 := dT c33; (try simp only [hl9_1] at c33b0); clear c33
            by_cases c34 : 0 ≤ (rd t418 x36_1)
            ·rw [if_pos c34] at H
             have c34b0 := dT c34; clear c34
             by_cases c35 : (rd t418 x36_1) < (l0_1.length : Int)
             ·rw [if_pos c35] at H
              have c35b0 := dT c35; (try simp only [hl9_1] at c35b0); clear c35; have HC36 := A0_ H; clear H
              have p424 : 0 ≤ (x36_1 : Int) := zd
              have q424 : x36_1 < (t418.length : Int) := zd
              obtain ⟨ad424, e424, hx424_0⟩ := tI (rR HO_34.out).2.2 x36_1 p424 q424
              cases e424
              replace p424 := eq_true p424; replace q424 := eq_true q424; have hcz37_0 := zc0 BK405; have hcz37_1 := zc1 BK405; have hfz37_0 := kF BK405.out 0; have hfz37_1 := kF BK405.out 1
              have p425 : 0 ≤ ((rd t418 x36_1) : Int) := zd
              have q425 : (rd t418 x36_1) < (l0_1.length : Int) := zd
              obtain ⟨ad425, e425, hx425_0⟩ := tI HR0_1.out (rd t418 x36_1) p425 q425
              cases e425
              try replace hx425_0 := (HB.out.cell (wL w _ hx425_0)).trans hx425_0
              replace p425 := eq_true p425; replace q425 := eq_true q425
              go_upto_region 11 with (fail)
              go_cut [61] (fun v61 wc => ∃ (kq : Nat) (x61_35 : Bool), v61 = .bool x61_35 ∧ Aside0 (impl_CoverTree.j1 kq t407 x9_1 x10_1 (rd t418 x36_1) (rd l0_1 (rd t418 x36_1)) t418 (t418.length : Int) x36_1 x61_35 l0_0 l0_1 = some (r1, r2)) ∧ Aside0 (kq ≤ k1) ∧ Aside0 (Kd.R (Kd.int .i64) 3 wc w.heap.size (fun k_ => (w.heap.size ≤ k_) ∧ some k_ ≠ ((.slice (some ad424) t418.length co30) : Value).ownBlock) (.slice (some ad413) t407.length co23) t407) ∧ Aside0 (Kd.R Kd.bool 4 wc w.heap.size (fun k_ => (w.heap.size ≤ k_)) (.slice (some ⟨go12, 0, none⟩) x9_1.length co12) x9_1) ∧ Aside0 (Kd.V (Kd.slice 3 (Kd.int .i64)) 22 wc w.heap.size (fun k_ => (P2_ k_ ∨ w.heap.size ≤ k_) ∧ some k_ ≠ ((.slice (some ad413) t407.length co23) : Value).ownBlock ∧ some k_ ≠ ((.slice (some ⟨go12, 0, none⟩) x9_1.length co12) : Value).ownBlock ∧ some k_ ≠ ((.slice (some ad424) t418.length co30) : Value).ownBlock ∧ k_ ≠ gb405) u10 x10_1) ∧ Aside0 (Kd.R (Kd.int .i64) 3 wc w.heap.size (fun k_ => (w.heap.size ≤ k_) ∧ some k_ ≠ ((.slice (some ad413) t407.length co23) : Value).ownBlock) (.slice (some ad424) t418.length co30) t418) ∧ Aside0 (wc.heap[gb405]? = some (.cells #[(.slice A0_0 l0_0.length c0_0), (.slice (some ad425) l0_1.length c0_1)] 29 (0, 0))) ∧ Aside0 (Below w.heap.size w wc))
              case first =>
               have H := HC36.out; clear HC36
               by_cases c38 : (rd t418 x36_1) < (t407.length : Int)
               ·rw [if_pos c38] at H
                have c38b0 := dT c38; (try simp only [hl9_1] at c38b0); clear c38
                (first | rw [c38b0] | (simp only [i64_w, i32_w]; rw [c38b0]) | skip)
                by_cases c39 : 0 ≤ (rd t407 (rd t418 x36_1))
                ·rw [if_pos c39] at H
                 have c39b0 := dT c39; clear c39
                 by_cases c40 : (rd t407 (rd t418 x36_1)) < (x9_1.length : Int)
                 ·rw [if_pos c40] at H
                  have c40b0 := dT c40; (try simp only [hl9_1] at c40b0); clear c40
                  obtain ⟨bq41, hbq41⟩ : ∃ b_ : Bool, b_ = (rdOf false x9_1 (rd t407 (rd t418 x36_1))) := ⟨_, rfl⟩
                  replace H : (if (bq41 = true) then (if 0 ≤ (rd l0_1 (rd t418 x36_1)) then (if (rd l0_1 (rd t418 x36_1)) < (t407.length : Int) then (if 0 ≤ (rd t407 (rd l0_1 (rd t418 x36_1))) then (if (rd t407 (rd l0_1 (rd t418 x36_1))) < (x9_1.length : Int) then (impl_CoverTree.j1 k1 t407 x9_1 x10_1 (rd t418 x36_1) (rd l0_1 (rd t418 x36_1)) t418 (t418.length : Int) x36_1 (rdOf false x9_1 (rd t407 (rd l0_1 (rd t418 x36_1)))) l0_0 l0_1) else (none)) else (none)) else (none)) else (none)) else (impl_CoverTree.j1 k1 t407 x9_1 x10_1 (rd t418 x36_1) (rd l0_1 (rd t418 x36_1)) t418 (t418.length : Int) x36_1 true l0_0 l0_1)) = some (r1, r2) := by rw [← hbq41] at H; exact H
                  have Nbq41 := A0_ hbq41; clear hbq41
                  by_cases c42 : (bq41 = true)
                  ·subst c42
                   have H1 : (if 0 ≤ (rd l0_1 (rd t418 x36_1)) then (if (rd l0_1 (rd t418 x36_1)) < (t407.length : Int) then (if 0 ≤ (rd t407 (rd l0_1 (rd t418 x36_1))) then (if (rd t407 (rd l0_1 (rd t418 x36_1))) < (x9_1.length : Int) then (impl_CoverTree.j1 k1 t407 x9_1 x10_1 (rd t418 x36_1) (rd l0_1 (rd t418 x36_1)) t418 (t418.length : Int) x36_1 (rdOf false x9_1 (rd t407 (rd l0_1 (rd t418 x36_1)))) l0_0 l0_1) else (none)) else (none)) else (none)) else (none)) = some (r1, r2) := by rw [if_pos rfl] at H; exact H
                   clear H; have H := H1; clear H1
                   by_cases c43 : 0 ≤ (rd l0_1 (rd t418 x36_1))
                   ·rw [if_pos c43] at H
                    have c43b0 := dT c43; clear c43
                    by_cases c44 : (rd l0_1 (rd t418 x36_1)) < (t407.length : Int)
                    ·rw [if_pos c44] at H
                     have c44b0 := dT c44; (try simp only [hl9_1] at c44b0); clear c44
                     by_cases c45 : 0 ≤ (rd t407 (rd l0_1 (rd t418 x36_1)))
                     ·rw [if_pos c45] at H
                      have c45b0 := dT c45; clear c45
                      by_cases c46 : (rd t407 (rd l0_1 (rd t418 x36_1))) < (x9_1.length : Int)
                      ·rw [if_pos c46] at H
                       have c46b0 := dT c46; (try simp only [hl9_1] at c46b0); clear c46; have H' := A0_ H; clear H
                       have p426 : 0 ≤ ((rd t418 x36_1) : Int) := zd
                       have q426 : (rd t418 x36_1) < (t407.length : Int) := zd
                       obtain ⟨ad426, e426, hx426_0⟩ := tI (rR HO_8.out).2.2 (rd t418 x36_1) p426 q426
                       obtain rfl : ad413 = ad426 := (by injection e426)
                       replace p426 := eq_true p426; replace q426 := eq_true q426
                       have p427 : 0 ≤ ((rd t407 (rd t418 x36_1)) : Int) := zd
                       have q427 : (rd t407 (rd t418 x36_1)) < (x9_1.length : Int) := zd
                       obtain ⟨ad427, e427, hx427_0⟩ := Kd.at_bool (rR HO_9.out).2.2 (rd t407 (rd t418 x36_1)) p427 q427
                       (try rw [← Nbq41.out] at hx427_0)
                       obtain rfl : (⟨go12, 0, none⟩ : Addr) = ad427 := (by injection e427)
                       (first | simp only [add_plain] at hx427_0 | simp only [add_at] at hx427_0 | simp only [Addr.add, Nat.zero_add] at hx427_0 | skip)
                       replace p427 := eq_true p427; replace q427 := eq_true q427
                       have p428 : 0 ≤ ((rd l0_1 (rd t418 x36_1)) : Int) := zd
                       have q428 : (rd l0_1 (rd t418 x36_1)) < (t407.length : Int) := zd
                       obtain ⟨ad428, e428, hx428_0⟩ := tI (rR HO_8.out).2.2 (rd l0_1 (rd t418 x36_1)) p428 q428
                       obtain rfl : ad413 = ad428 := (by injection e428)
                       replace p428 := eq_true p428; replace q428 := eq_true q428
                       have p429 : 0 ≤ ((rd t407 (rd l0_1 (rd t418 x36_1))) : Int) := zd
                       have q429 : (rd t407 (rd l0_1 (rd t418 x36_1))) < (x9_1.length : Int) := zd
                       obtain ⟨ad429, e429, hx429_0⟩ := Kd.at_bool (rR HO_9.out).2.2 (rd t407 (rd l0_1 (rd t418 x36_1))) p429 q429
                       (try rw [← Nbq41.out] at hx429_0)
                       obtain rfl : (⟨go12, 0, none⟩ : Addr) = ad429 := (by injection e429)
                       (first | simp only [add_plain] at hx429_0 | simp only [add_at] at hx429_0 | simp only [Addr.add, Nat.zero_add] at hx429_0 | skip)
                       replace p429 := eq_true p429; replace q429 := eq_true q429
                       go_wp2
                       go_meet
                       case rel => exact ⟨_, (rdOf false x9_1 (rd t407 (rd l0_1 (rd t418 x36_1)))), zt, H', ⟨by have := HK1.out; first | omega | exact Nat.le_refl _⟩, ⟨by (try simp only [hl9_1]); (with_reducible repeat (first | apply rA | apply rN | apply rD)); exact HO_8.out⟩, ⟨by (try simp only [hl9_1]); (with_reducible repeat (first | apply rA | apply rN | apply rD)); exact HO_9.out⟩, ⟨by (try simp only [hl9_1]); (with_reducible repeat (first | apply Kd.V_alloc | apply Kd.V_drewN | apply Kd.V_drew)); exact HO_10.out⟩, ⟨by (try simp only [hl9_1]); (with_reducible repeat (first | apply rA | apply rN | apply rD)); exact HO_34.out⟩, ⟨by (try simp only [hl9_1]); (with_reducible repeat (first | refine kN ?_ _ | refine kD ?_ | refine kA ?_ _)); exact BK405.out⟩, ⟨zB_ HB⟩⟩
                      rw [if_neg c46] at H
                      exact absurd H (by simp)
                     rw [if_neg c45] at H
                     exact absurd H (by simp)
                    rw [if_neg c44] at H
                    exact absurd H (by simp)
                   rw [if_neg c43] at H
                   exact absurd H (by simp)
                  replace c42 := Bool.eq_false_iff.mpr c42; subst c42
                  have H1 : (impl_CoverTree.j1 k1 t407 x9_1 x10_1 (rd t418 x36_1) (rd l0_1 (rd t418 x36_1)) t418 (t418.length : Int) x36_1 true l0_0 l0_1) = some (r1, r2) := by rw [if_neg (show ¬ (false = true) by decide)] at H; exact H
                  clear H; have H := H1; clear H1; have H' := A0_ H; clear H
                  have p426 : 0 ≤ ((rd t418 x36_1) : Int) := zd
                  have q426 : (rd t418 x36_1) < (t407.length : Int) := zd
                  obtain ⟨ad426, e426, hx426_0⟩ := tI (rR HO_8.out).2.2 (rd t418 x36_1) p426 q426
                  obtain rfl : ad413 = ad426 := (by injection e426)
                  replace p426 := eq_true p426; replace q426 := eq_true q426
                  have p427 : 0 ≤ ((rd t407 (rd t418 x36_1)) : Int) := zd
                  have q427 : (rd t407 (rd t418 x36_1)) < (x9_1.length : Int) := zd
                  obtain ⟨ad427, e427, hx427_0⟩ := Kd.at_bool (rR HO_9.out).2.2 (rd t407 (rd t418 x36_1)) p427 q427
                  (try rw [← Nbq41.out] at hx427_0)
                  obtain rfl : (⟨go12, 0, none⟩ : Addr) = ad427 := (by injection e427)
                  (first | simp only [add_plain] at hx427_0 | simp only [add_at] at hx427_0 | simp only [Addr.add, Nat.zero_add] at hx427_0 | skip)
                  replace p427 := eq_true p427; replace q427 := eq_true q427
                  go_wp2
                  go_meet
                  case rel => exact ⟨_, (true), zt, H', ⟨by have := HK1.out; first | omega | exact Nat.le_refl _⟩, ⟨by (try simp only [hl9_1]); (with_reducible repeat (first | apply rA | apply rN | apply rD)); exact HO_8.out⟩, ⟨by (try simp only [hl9_1]); (with_reducible repeat (first | apply rA | apply rN | apply rD)); exact HO_9.out⟩, ⟨by (try simp only [hl9_1]); (with_reducible repeat (first | apply Kd.V_alloc | apply Kd.V_drewN | apply Kd.V_drew)); exact HO_10.out⟩, ⟨by (try simp only [hl9_1]); (with_reducible repeat (first | apply rA | apply rN | apply rD)); exact HO_34.out⟩, ⟨by (try simp only [hl9_1]); (with_reducible repeat (first | refine kN ?_ _ | refine kD ?_ | refine kA ?_ _)); exact BK405.out⟩, ⟨zB_ HB⟩⟩
                 rw [if_neg c40] at H
                 exact absurd H (by simp)
                rw [if_neg c39] at H
                exact absurd H (by simp)
               rw [if_neg c38] at H
               exact absurd H (by simp)
              case rest =>
               clear HC36; (try clear c1); (try clear p1); (try clear q1); (try clear hx1); (try clear c2); (try clear p2); (try clear c3); (try clear c4); (try clear p4); (try clear q4); (try clear hx4); (try clear qi4); (try clear c5); (try clear c7); (try clear c7b0); (try clear c7b1); (try clear c8); (try clear c8b0); (try clear c8b1); (try clear c9); (try clear c9b0); (try clear c9b1); (try clear c10); (try clear c10b0); (try clear c11); (try clear c11b0); (try clear p12); (try clear q12); (try clear hx12); (try clear hf12); (try clear c20); (try clear c31); (try clear c31b0); (try clear c32); (try clear c32b0); (try clear c33); (try clear c33b0); (try clear c34); (try clear c34b0); (try clear c35); (try clear c35b0); (try clear c38); (try clear c38b0); (try clear c39); (try clear c39b0); (try clear c40); (try clear c40b0); (try clear p41); (try clear q41); (try clear hx41); (try clear qi41); (try clear c42); (try clear p42); (try clear q42); (try clear hx42); (try clear c43); (try clear c43b0); (try clear c44); (try clear c44b0); (try clear c45); (try clear c45b0); (try clear c46); (try clear c46b0); (try clear hcz16_0); (try clear hcz16_1); (try clear hcz18_0); (try clear hcz18_1); (try clear hcz20_0); (try clear hcz20_1); (try clear hcz26_0); (try clear hcz26_1); (try clear hcz37_0); (try clear hcz37_1); (try clear hfz16_0); (try clear hfz16_1); (try clear hfz18_0); (try clear hfz18_1); (try clear hfz20_0); (try clear hfz20_1); (try clear hfz26_0); (try clear hfz26_1); (try clear hfz37_0); (try clear hfz37_1); (try clear hx12_0); (try clear hx413_0); (try clear hx424_0); (try clear hx425_0); (try clear hx426_0); (try clear hx427_0); (try clear hx428_0); (try clear hx429_0); (try clear p1); (try clear p12); (try clear p2); (try clear p4); (try clear p413); (try clear p424); (try clear p425); (try clear p426); (try clear p427); (try clear p428); (try clear p429); (try clear q1); (try clear q12); (try clear q4); (try clear q413); (try clear q424); (try clear q425); (try clear q426); (try clear q427); (try clear q428); (try clear q429); obtain ⟨kq, x61_35, rfl, HA, HJ35, HO_8, HO_9, HO_10, HO_34, BK405, HB⟩ := hcut
               cases kq with
               | zero => exact absurd HA.out (by simp [impl_CoverTree.j1])
               | succ kj35 =>
                have H := HA.out; clear HA; simp only [impl_CoverTree.j1] at H
                by_cases c47 : x61_35 = true
                ·subst c47
                 have H1 : (impl_CoverTree.l0 kj35 t407 x9_1 x10_1 t418 (t418.length : Int) (wrap64 (x36_1 + 1)) l0_0 l0_1) = some (r1, r2) := by rw [if_pos rfl] at H; exact H
                 clear H; have H := H1; clear H1; have H' := A0_ H; clear H
                 go_wp2
                 (try simp only [← hl9_1])
                 go_roundg kj35
                 case measure => have := HK1.out; have := HJ35.out; omega
                 case rel => exact ⟨(x9_1), (x10_1), (wrap64 (x36_1 + 1)), zt, H', ⟨by have := HK1.out; have := HJ35.out; omega⟩, ⟨by (try simp only [hl9_1]); (with_reducible repeat (first | apply rA | apply rN | apply rD)); exact HO_8.out⟩, ⟨by (try simp only [hl9_1]); (with_reducible repeat (first | apply rA | apply rN | apply rD)); exact HO_9.out⟩, ⟨by (try simp only [hl9_1]); (with_reducible repeat (first | apply Kd.V_alloc | apply Kd.V_drewN | apply Kd.V_drew)); exact HO_10.out⟩, ⟨by (try simp only [hl9_1]); (with_reducible repeat (first | apply rA | apply rN | apply rD)); exact HO_34.out⟩, ⟨by (try simp only [hl9_1]); (with_reducible repeat (first | refine kN ?_ _ | refine kD ?_ | refine kA ?_ _)); exact BK405.out⟩, ⟨zB_ HB⟩⟩
                replace c47 := Bool.eq_false_iff.mpr c47; subst c47
                have H1 : (if 0 ≤ (rd l0_1 (rd t418 x36_1)) then (if (rd l0_1 (rd t418 x36_1)) < (t407.length : Int) then (if 0 ≤ (rd t407 (rd l0_1 (rd t418 x36_1))) then (if (rd t407 (rd l0_1 (rd t418 x36_1))) < (x9_1.length : Int) then ((impl_along.f kj35 l0_0 l0_1 x10_1 (rd t418 x36_1)).bind fun t432 => ((impl_back.f kj35 t432).bind fun t436 => ((impl_conjAt.f kj35 l0_0 l0_1 x10_1 (rd t407 (rd l0_1 (rd t418 x36_1))) t436).bind fun t439 => (impl_CoverTree.l0 kj35 t407 (x9_1.set ((rd t407 (rd l0_1 (rd t418 x36_1))) : Int).toNat true) t439 t418 (t418.length : Int) (wrap64 (x36_1 + 1)) l0_0 l0_1)))) else (none)) else (none)) else (none)) else (none)) = some (r1, r2) := by rw [if_neg (show ¬ (false = true) by decide)] at H; exact H
                clear H; have H := H1; clear H1
                by_cases c48 : 0 ≤ (rd l0_1 (rd t418 x36_1))
                ·rw [if_pos c48] at H
                 have c48b0 := dT c48; clear c48
                 by_cases c49 : (rd l0_1 (rd t418 x36_1)) < (t407.length : Int)
                 ·rw [if_pos c49] at H
                  have c49b0 := dT c49; (try simp only [hl9_1] at c49b0); clear c49
                  by_cases c50 : 0 ≤ (rd t407 (rd l0_1 (rd t418 x36_1)))
                  ·rw [if_pos c50] at H
                   have c50b0 := dT c50; clear c50
                   by_cases c51 : (rd t407 (rd l0_1 (rd t418 x36_1))) < (x9_1.length : Int)
                   ·rw [if_pos c51] at H
                    have c51b0 := dT c51; (try simp only [hl9_1] at c51b0); clear c51
                    obtain ⟨y431, hy431⟩ : ∃ y_ : List Bool, y_ = (x9_1.set ((rd t407 (rd l0_1 (rd t418 x36_1))) : Int).toNat true) := ⟨_, rfl⟩
                    replace H : ((impl_along.f kj35 l0_0 l0_1 x10_1 (rd t418 x36_1)).bind fun t432 => ((impl_back.f kj35 t432).bind fun t436 => ((impl_conjAt.f kj35 l0_0 l0_1 x10_1 (rd t407 (rd l0_1 (rd t418 x36_1))) t436).bind fun t439 => (impl_CoverTree.l0 kj35 t407 y431 t439 t418 (t418.length : Int) (wrap64 (x36_1 + 1)) l0_0 l0_1)))) = some (r1, r2) := zH hy431 H
                    have Ny431 := A0_ hy431; clear hy431; obtain ⟨t432, A53, H⟩ := zbind H; obtain ⟨t436, A54, H⟩ := zbind H; obtain ⟨t439, A55, H⟩ := zbind H; have H' := A0_ H; clear H
                    have p430 : 0 ≤ ((rd l0_1 (rd t418 x36_1)) : Int) := zd
                    have q430 : (rd l0_1 (rd t418 x36_1)) < (t407.length : Int) := zd
                    obtain ⟨ad430, e430, hx430_0⟩ := tI (rR HO_8.out).2.2 (rd l0_1 (rd t418 x36_1)) p430 q430
                    obtain rfl : ad413 = ad430 := (by injection e430)
                    replace p430 := eq_true p430; replace q430 := eq_true q430
                    have p52 : 0 ≤ ((rd t407 (rd l0_1 (rd t418 x36_1))) : Int) := zd
                    have q52 : ((rd t407 (rd l0_1 (rd t418 x36_1))) : Int) < ((x9_1.length : Int) : Int) := zd
                    obtain ⟨hx52_0, hf52_0⟩ := Kd.R_celln false HO_9.out ((rd t407 (rd l0_1 (rd t418 x36_1))) : Int) p52 q52
                    replace p52 := eq_true p52; replace q52 := eq_true q52
                    have HP56 := Kd.R_putg HO_9.out ((rd t407 (rd l0_1 (rd t418 x36_1))) : Int) true
                    try go_wp2_with (first | ((with_reducible refine gS (t := 4) (p := 67) rfl ?_); refine store_event (t := 4) (p := 67) (v := ?vo_w57) (w1 := (wc.setCell ⟨go12, ((rd t407 (rd l0_1 (rd t418 x36_1))) : Int).toNat, none⟩ (.bool true))) ?hg ?ho ?hn ?hr ?_; (case ho => rfl); (case hg => rfl); (case hn => rfl); (case hr => first | (go_simp; done) | (go_simp; rfl)); intro w57 hw; have hg : wc.grownBy w57 (some go12) := (by rw [hw]; exact HP56.2); have hp_ : Kd.R Kd.bool 4 w57 w.heap.size (fun k_ => (w.heap.size ≤ k_)) (.slice (some ⟨go12, 0, none⟩) x9_1.length co12) y431 := (by rw [hw, Ny431.out]; exact HP56.1); clear HP56; replace HO_8 := A0_ (Kd.R_over' (v := (.slice (some ⟨go12, 0, none⟩) x9_1.length co12)) (zR_ HO_8) (Kd.R_typed HO_9.out) (by decide) hg); replace HO_10 := A0_ (Kd.V_afterv (v := (.slice (some ⟨go12, 0, none⟩) x9_1.length co12)) (v1 := (.slice (some ⟨go12, 0, none⟩) x9_1.length co12)) (ok := (fun k_ => (P2_ k_ ∨ w.heap.size ≤ k_) ∧ some k_ ≠ (.slice (some ad413) t407.length co23 : Value).ownBlock ∧ some k_ ≠ (.slice (some ad424) t418.length co30 : Value).ownBlock ∧ k_ ≠ gb405)) (by (with_reducible repeat (first | apply Kd.V_alloc | apply Kd.V_drewN | apply Kd.V_drew)); exact Kd.V_mono HO_10.out (fun _ hk => ⟨⟨hk.1, ⟨hk.2.1, ⟨hk.2.2.2.1, hk.2.2.2.2⟩⟩⟩, hk.2.2.1⟩)) hg (.inl rfl)); replace HO_34 := A0_ (Kd.R_over' (v := (.slice (some ⟨go12, 0, none⟩) x9_1.length co12)) (zR_ HO_34) (Kd.R_typed HO_9.out) (by decide) hg); replace BK405 := A0_ (blk_grown (g := gb405) (o := .cells #[.slice A0_0 l0_0.length c0_0, .slice (some ad425) l0_1.length c0_1] 29 (0, 0)) (zK_ BK405) hg (Kd.R_ne HO_9.out BK405.out (by decide))); replace HO_9 := A0_ (hp_); replace HB := A0_ ((by rw [hw]; exact bS (HB.out) GB12.out : Below w.heap.size w w57)); clear hg hw hp_; have hcz58_0 := zc0 BK405; have hcz58_1 := zc1 BK405; have hfz58_0 := kF BK405.out 0; have hfz58_1 := kF BK405.out 1; obtain ⟨Ao59, co59, eo59⟩ := Kd.V_slice HO_10.out; subst eo59) | ((with_reducible refine gC (f := 91) rfl ?_); refine zJ (some 71) Try.func91 #[.agg #[.slice A0_0 l0_0.length c0_0, .slice (some ad425) l0_1.length c0_1], .slice Ao59 x10_1.length co59, .int .i64 (rd t418 x36_1)] ?_; (with_reducible refine (impl_along.calls kj35 _ _ l0_0 _ _ l0_1 (fun k_ => (((P2_ k_ ∨ w.heap.size ≤ k_) ∧ (some k_ ≠ (.slice (some ad413) t407.length co23 : Value).ownBlock ∧ (some k_ ≠ (.slice (some ad424) t418.length co30 : Value).ownBlock ∧ k_ ≠ gb405))) ∧ some k_ ≠ (.slice (some ⟨go12, 0, none⟩) x9_1.length co12 : Value).ownBlock)) _ _ x10_1 (rd t418 x36_1) t432 _ ?side1 ?side2 ?side3 ?side4 ?side5 A53.out).mono ?_); (case side1 => exact zC HR0_0 HB); (case side2 => exact HC0_0.out); (case side3 => exact zC HR0_1 HB); (case side4 => exact HC0_1.out); (case side5 => exact HO_10.out); rintro e w60 ⟨v433, rfl, ho0, hb⟩; refine ⟨_, rfl, ?_⟩; replace HO_10 := A0_ (Kd.V_below (by (with_reducible repeat (first | apply Kd.V_alloc | apply Kd.V_drewN | apply Kd.V_drew)); exact HO_10.out) hb); have HO434 := A0_ (Kd.V_lower (Kd.V_mono (ok' := fun k_ => (P2_ k_ ∨ w.heap.size ≤ k_) ∧ some k_ ≠ (.slice (some ad413) t407.length co23 : Value).ownBlock ∧ some k_ ≠ (.slice (some ⟨go12, 0, none⟩) x9_1.length co12 : Value).ownBlock ∧ some k_ ≠ (.slice (some ad424) t418.length co30 : Value).ownBlock ∧ k_ ≠ gb405) ho0 (fun k_ hk_ => ⟨Or.elim hk_ (fun hs_ => hs_.1.1) (fun hn_ => (.inr (Nat.le_trans (bZ (zB_ HB)) hn_))), Or.elim hk_ (fun hs_ => hs_.1.2.1) (fun hn_ => (Kd.fresh' (rX (zR_ HO_8)) k_ hn_)), Or.elim hk_ (fun hs_ => hs_.2) (fun hn_ => (Kd.fresh' (rX (zR_ HO_9)) k_ hn_)), Or.elim hk_ (fun hs_ => hs_.1.2.2.1) (fun hn_ => (Kd.fresh' (rX (zR_ HO_34)) k_ hn_)), Or.elim hk_ (fun hs_ => hs_.1.2.2.2) (fun hn_ => (Kd.freshB (g := gb405) (o := .cells #[.slice A0_0 l0_0.length c0_0, .slice (some ad425) l0_1.length c0_1] 29 (0, 0)) (zK_ BK405) k_ hn_))⟩)) (bZ (zB_ HB))); replace HO_8 := zR HO_8 hb; replace HO_9 := zR HO_9 hb; replace HO_34 := zR HO_34 hb; replace BK405 := zK BK405 hb; replace HB := zB HB hb; (try clear hb); (try clear ho0)))
                    replace HO_8 := A0_ (rD HO_8.out)
                    replace HO_9 := A0_ (rD HO_9.out)
                    replace HO_10 := A0_ (Kd.V_drew HO_10.out)
                    replace HO_34 := A0_ (rD HO_34.out)
                    replace HO434 := A0_ (Kd.V_drew HO434.out)
                    replace BK405 := A0_ (kD BK405.out)
                    replace HB := A0_ (bD HB.out)
                    have p435 : 0 ≤ ((rd l0_1 (rd t418 x36_1)) : Int) := zd
                    have q435 : (rd l0_1 (rd t418 x36_1)) < (t407.length : Int) := zd
                    obtain ⟨ad435, e435, hx435_0⟩ := tI (rR HO_8.out).2.2 (rd l0_1 (rd t418 x36_1)) p435 q435
                    obtain rfl : ad413 = ad435 := (by injection e435)
                    replace p435 := eq_true p435; replace q435 := eq_true q435; obtain ⟨Ao62, co62, eo62⟩ := Kd.V_slice HO434.out
                    (first | subst eo62 | (injection eo62 with f1_ f2_ f3_; have f4_ := f1_.symm; have f5_ := f3_.symm; clear f1_ f2_ f3_; subst f4_; subst f5_))
                    refine start_ (n := 10) (S := fun w' => w'.cell? ⟨gb405, 0, none⟩ = some (.slice A0_0 l0_0.length c0_0) ∧ w'.cell? ⟨gb405, 1, none⟩ = some (.slice (some ad425) l0_1.length c0_1) ∧ w'.cell? (ad413.add ((rd l0_1 (rd t418 x36_1))).toNat) = some (.int .i64 (rd t407 (rd l0_1 (rd t418 x36_1))))) (ds := []) #[false, false, false, false, false, false, false, false, false, false] (by kernel_rfl) rfl rfl ⟨(kC BK405.out 0).trans rfl, (kC BK405.out 1).trans rfl, hx435_0⟩ (fun hHeld => ?_); refine with_tabW impl_CoverTree.tab14 impl_CoverTree.bits14 (fun HT_ HW_ => ?_)
                    generalize w60.drew = w61 at HO_8 HO_9 HO_10 HO_34 HO434 BK405 HB hx435_0 hHeld ⊢
                    refine zP 1 (some 73) #[false,true,false,false,false,false,false,false,false,false] ?_
                    refine zP 2 (some 74) #[false,true,true,false,false,false,false,false,false,false] ?_
                    refine zP 3 (some 75) #[false,true,true,true,false,false,false,false,false,false] ?_
                    refine zP 4 (some 76) #[false,true,true,true,true,false,false,false,false,false] ?_
                    refine zP 6 (some 78) #[false,true,true,true,true,false,true,false,false,false] ?_
                    refine take_ (i := 0) (N := some 72) (v := ?_) (a' := ?_) #[true, true, true, true, true, false, true, false, false, false] rfl rfl (take_ofW HT_.out HW_.out (by kernel_rfl)) (fun _ _ _ h => h) (Or.inl ⟨by rfl, ?_⟩) hHeld ?_ ?_
                    rotate_left
                    ·rintro w' ⟨s0, s1, s2⟩
                     go_simp
                     with_reducible rfl
                    rotate_left
                    ·simp only [Act.put, List.setIfInBounds_toArray, List.set_cons_zero, List.set_cons_succ, i64_w, i32_w]
                     rfl
                    refine take_ (i := 5) (N := some 77) (v := ?_) (a' := ?_) #[true, true, true, true, true, true, true, false, false, false] rfl rfl (take_ofW HT_.out HW_.out (by kernel_rfl)) (fun _ _ _ h => h) (Or.inl ⟨by rfl, ?_⟩) hHeld ?_ ?_
                    rotate_left
                    ·rintro w' ⟨s0, s1, s2⟩
                     go_simp
                     with_reducible rfl
                    rotate_left
                    ·simp only [Act.put, List.setIfInBounds_toArray, List.set_cons_zero, List.set_cons_succ, i64_w, i32_w]
                     rfl
                    refine one_ (i := 7) (N := some 79) #[true, true, true, true, true, true, true, true, false, false] rfl rfl (one_of HT_.out (by kernel_rfl)) (by decide) (fun K hK => ?_)
                    refine goes_ Try.func89 (by kernel_rfl) rfl #[.slice Ao62 t432.length co62] (by rfl) rfl rfl (by (try simp only [List.map_toArray, List.map_cons, List.map_nil]); first | done | rfl | (simp only [List.length_drop, List.length_take]; rfl)) ?_
                    with_reducible refine (impl_back.calls kj35 _ _ t432 t436 _ ?side1 ?side2 A54.out).mono ?_
                    (case side1 => repeat (first | exact (Kd.V_reads' HO434.out).2.2 | (with_reducible refine cA ?_ _) | (with_reducible refine cN ?_ _) | (with_reducible refine cD ?_)))
                    (case side2 => exact (Kd.V_reads' HO434.out).2.1)
                    rintro e w63 ⟨v437, rfl, ho0, hb⟩
                    have HS2_ := (hb.cell (wL _ _ (hHeld.2.2))).trans (hHeld.2.2)
                    refine ⟨_, rfl, ?_⟩
                    replace HO_9 := zR HO_9 hb
                    replace HO_10 := A0_ (Kd.V_elder' (by (with_reducible repeat (first | apply Kd.V_alloc | apply Kd.V_drewN | apply Kd.V_drew)); exact HO_10.out) (Kd.R_base ho0) hb)
                    replace HO434 := A0_ (Kd.V_elder' (by (with_reducible repeat (first | apply Kd.V_alloc | apply Kd.V_drewN | apply Kd.V_drew)); exact HO434.out) (Kd.R_base ho0) hb)
                    have HO438 := A0_ (rL (Kd.R_new' (Kd.R_new' (Kd.R_newM (M := fun k_ => (w.heap.size ≤ k_)) ho0 (bZ (zB_ HB)) (fun k_ h_ => h_)) (rX (zR_ HO_8))) (rX (zR_ HO_34))) (bZ (zB_ HB)))
                    replace HO_8 := A0_ (Kd.R_elder' (zR_ HO_8) (Kd.R_base ho0) hb)
                    replace HO_34 := A0_ (Kd.R_elder' (zR_ HO_34) (Kd.R_base ho0) hb)
                    replace BK405 := zK BK405 hb; replace HB := zB HB hb; (try clear hb); (try clear hb2); (try clear hk); (try clear hi); (try clear ho0); obtain ⟨Ao64, co64, eo64⟩ := rS HO438.out
                    (first | subst eo64 | (injection eo64 with f1_ f2_ f3_; have f4_ := f1_.symm; have f5_ := f3_.symm; clear f1_ f2_ f3_; subst f4_; subst f5_))
                    refine hK.out _ _ ⟨(kC BK405.out 0).trans rfl, (kC BK405.out 1).trans rfl, HS2_⟩ (fun hHeld => ?_)
                    clear hK K
                    refine norm_ (a' := ?_) ?_ ?_
                    rotate_left
                    ·show Act.put _ (some 79) _ = _
                     simp only [Act.put, List.setIfInBounds_toArray, List.set_cons_zero, List.set_cons_succ, i64_w, i32_w]
                     rfl
                    refine one_ (i := 8) (N := some 80) #[true, true, true, true, true, true, true, true, true, false] rfl rfl (one_of HT_.out (by kernel_rfl)) (by decide) (fun K hK => ?_)
                    refine goes_ Try.func83 (by kernel_rfl) rfl #[.agg #[.slice A0_0 l0_0.length c0_0, .slice (some ad425) l0_1.length c0_1], .slice Ao59 x10_1.length co59, .int .i64 (rd t407 (rd l0_1 (rd t418 x36_1))), .slice Ao64 t436.length co64] (by rfl) rfl rfl (by (try simp only [List.map_toArray, List.map_cons, List.map_nil]); first | done | rfl | (simp only [List.length_drop, List.length_take]; rfl)) ?_
                    with_reducible refine (impl_conjAt.calls kj35 _ _ l0_0 _ _ l0_1 _ _ x10_1 (rd t407 (rd l0_1 (rd t418 x36_1))) _ _ t436 t439 _ ?side1 ?side2 ?side3 ?side4 ?side5 ?side6 ?side7 ?side8 A55.out).mono ?_
                    (case side1 => exact zC HR0_0 HB)
                    (case side2 => exact HC0_0.out)
                    (case side3 => exact zC HR0_1 HB)
                    (case side4 => exact HC0_1.out)
                    (case side5 => repeat (first | exact (Kd.V_reads' HO_10.out).2.2 | (with_reducible refine cA ?_ _) | (with_reducible refine cN ?_ _) | (with_reducible refine cD ?_)))
                    (case side6 => exact (Kd.V_reads' HO_10.out).2.1)
                    (case side7 => exact zD HO438)
                    (case side8 => exact (rR HO438.out).2.1)
                    rintro e w65 ⟨v440, rfl, ho0, hb⟩
                    have HS2_ := (hb.cell (wL _ _ (hHeld.2.2))).trans (hHeld.2.2)
                    refine ⟨_, rfl, ?_⟩
                    replace HO_9 := zR HO_9 hb
                    replace HO_10 := A0_ (Kd.V_elder' (by (with_reducible repeat (first | apply Kd.V_alloc | apply Kd.V_drewN | apply Kd.V_drew)); exact HO_10.out) (Kd.S_base ho0) hb)
                    replace HO434 := A0_ (Kd.V_elder' (by (with_reducible repeat (first | apply Kd.V_alloc | apply Kd.V_drewN | apply Kd.V_drew)); exact HO434.out) (Kd.S_base ho0) hb)
                    have HO441 := A0_ (Kd.S_lower (Kd.S_new' (Kd.S_new' (Kd.S_new' (Kd.S_newM (M := fun k_ => (w.heap.size ≤ k_)) ho0 (bZ (zB_ HB)) (fun k_ h_ => h_)) (rX (zR_ HO_8))) (rX (zR_ HO_34))) (rX (zR_ HO438))) (bZ (zB_ HB)))
                    replace HO_8 := zR HO_8 hb; replace HO_34 := zR HO_34 hb; replace HO438 := zR HO438 hb; replace BK405 := zK BK405 hb; replace HB := zB HB hb; (try clear hb); (try clear hb2); (try clear hk); (try clear hi); (try clear ho0)
                    refine hK.out _ _ ⟨(kC BK405.out 0).trans rfl, (kC BK405.out 1).trans rfl, HS2_⟩ (fun hHeld => ?_)
                    clear hK K
                    refine norm_ (a' := ?_) ?_ ?_
                    rotate_left
                    ·show Act.put _ (some 80) _ = _
                     simp only [Act.put, List.setIfInBounds_toArray, List.set_cons_zero, List.set_cons_succ, i64_w, i32_w]
                     rfl
                    refine zP 9 (some 10) #[true,true,true,true,true,true,true,true,true,true] ?_
                    refine done_ (done_of HT_.out (by kernel_rfl)) ?_
                    try go_wp2
                    (try simp only [← hl9_1])
                    go_roundg kj35
                    case measure => have := HK1.out; have := HJ35.out; omega
                    case rel => exact ⟨(y431), (t439), (wrap64 (x36_1 + 1)), zt, H', ⟨by have := HK1.out; have := HJ35.out; omega⟩, ⟨by (try simp only [hl9_1]); (with_reducible repeat (first | apply rA | apply rN | apply rD)); exact rM HO_8.out (fun _ hk => ⟨hk.1.1, hk.1.2⟩)⟩, ⟨by (try simp only [hl9_1]); (with_reducible repeat (first | apply rA | apply rN | apply rD)); exact HO_9.out⟩, ⟨Kd.V_mono (Kd.S_V (ok := fun k_ => (w.heap.size ≤ k_) ∧ some k_ ≠ ((.slice (some ad413) t407.length co23) : Value).ownBlock ∧ some k_ ≠ ((.slice (some ⟨go12, 0, none⟩) x9_1.length co12) : Value).ownBlock ∧ some k_ ≠ ((.slice (some ad424) t418.length co30) : Value).ownBlock ∧ k_ ≠ gb405) (by (try simp only [hl9_1]); (with_reducible repeat (first | apply sA | apply sN | apply sD)); exact sM (Kd.S_types (Kd.S_apart' HO441.out (Kd.R_typed HO_9.out) (by decide)) BK405.out (by decide)) (fun _ hk => ⟨hk.1.1.1.1.1.1, ⟨hk.1.1.1.1.2, ⟨hk.1.2, ⟨hk.1.1.1.2, hk.2⟩⟩⟩⟩))) (fun k_ hk => by first | exact ⟨(.inr (hk.1)), hk.2⟩ | exact (.inr (hk)))⟩, ⟨by (try simp only [hl9_1]); (with_reducible repeat (first | apply rA | apply rN | apply rD)); exact rM HO_34.out (fun _ hk => ⟨hk.1.1, hk.1.2⟩)⟩, ⟨by (try simp only [hl9_1]); (with_reducible repeat (first | refine kN ?_ _ | refine kD ?_ | refine kA ?_ _)); exact BK405.out⟩, ⟨zB_ HB⟩⟩
                   rw [if_neg c51] at H
                   exact absurd H (by simp)
                  rw [if_neg c50] at H
                  exact absurd H (by simp)
                 rw [if_neg c49] at H
                 exact absurd H (by simp)
                rw [if_neg c48] at H
                exact absurd H (by simp)
             rw [if_neg c35] at H
             exact absurd H (by simp)
            rw [if_neg c34] at H
            exact absurd H (by simp)
           rw [if_neg c33] at H
           exact absurd H (by simp)
          rw [if_neg c32] at H
          exact absurd H (by simp)
         rw [if_neg c31] at H; have c31b0 := dF c31; (try simp only [hl9_1] at c31b0); clear c31; obtain ⟨t421, A66, H⟩ := zbind H; simp only [Option.some.injEq, Prod.mk.injEq] at H; obtain ⟨rfl, rfl⟩ := H; obtain ⟨Ao67, co67, eo67⟩ := Kd.V_slice HO_10.out; subst eo67
         go_wp2_with (first | ((with_reducible refine gC (f := 92) rfl ?_); refine zJ (some 83) Try.func92 #[.slice Ao67 x10_1.length co67] ?_; (with_reducible refine (impl_copyLists.calls k1 _ _ x10_1 t421 _ ?side1 ?side2 A66.out).mono ?_); (case side1 => repeat (first | exact (Kd.V_reads' HO_10.out).2.2 | (with_reducible refine cA ?_ _) | (with_reducible refine cN ?_ _) | (with_reducible refine cD ?_))); (case side2 => exact (Kd.V_reads' HO_10.out).2.1); rintro e w68 ⟨v422, rfl, ho0, hb⟩; refine ⟨_, rfl, ?_⟩; replace HO_9 := zR HO_9 hb; replace HO_10 := A0_ (Kd.V_elder' (by (with_reducible repeat (first | apply Kd.V_alloc | apply Kd.V_drewN | apply Kd.V_drew)); exact HO_10.out) (Kd.S_base ho0) hb); have HO423 := A0_ (Kd.S_lower (Kd.S_new' (Kd.S_new' (Kd.S_newM (M := fun k_ => (w.heap.size ≤ k_)) ho0 (bZ (zB_ HB)) (fun k_ h_ => h_)) (rX (zR_ HO_8))) (rX (zR_ HO_34))) (bZ (zB_ HB))); replace HO_8 := zR HO_8 hb; replace HO_34 := zR HO_34 hb; replace BK405 := zK BK405 hb; replace HB := zB HB hb; (try clear hb); (try clear ho0)))
         go_ret2
         exact ⟨_, by first | rfl | (simp [*] <;> rfl), zmS HO423 (fun _ hk => hk.1.1.1), zB_ HB⟩
      rw [if_neg c11] at H
      exact absurd H (by simp)
     rw [if_neg c10] at H
     exact absurd H (by simp)
    rw [if_neg c9] at H
    exact absurd H (by simp)
   rw [if_neg c8] at H
   exact absurd H (by simp)
  rw [if_neg c7] at H
  exact absurd H (by simp)
 replace c5 := Bool.eq_false_iff.mpr c5; subst c5
 have H1 : (some (([] : List (List Int)), false)) = some (r1, r2) := by rw [if_neg (show ¬ (false = true) by decide)] at H; exact H
 clear H; have H := H1; clear H1; simp only [Option.some.injEq, Prod.mk.injEq] at H; obtain ⟨rfl, rfl⟩ := H
 go_enter Try.func50, Try.ntmps50
 go_wp2_with (first | ((with_reducible refine gD (N := 3) rfl ?_); refine zX (N := 3) (cs := #[.slice A0_0 l0_0.length c0_0, .slice A0_1 l0_1.length c0_1]) (t := 29) ?_; intro gb405 hg w69 hbox hb; replace HO2 := A0_ (Kd.V_below (Kd.V_elderB (by (with_reducible repeat (first | apply Kd.V_alloc | apply Kd.V_drewN | apply Kd.V_drew)); exact HO2.out) gb405 (Nat.le_of_eq hg.symm)) hb); have BK405 := A0_ (hbox); have GW405 := zG hg HB; have GE405 := zG hg HB; replace HB := zB HB hb; clear hb hbox hg; have hcz70_0 := zc0 BK405; have hcz70_1 := zc1 BK405; have hfz70_0 := kF BK405.out 0; have hfz70_1 := kF BK405.out 1) | ((with_reducible refine gC (f := 20) rfl ?_); refine zJ (some 18) Try.func20 #[.agg #[.slice A0_0 l0_0.length c0_0, .slice A0_1 l0_1.length c0_1], .int .i64 a1, .slice A2 l2.length c2] ?_; (with_reducible refine (impl_VoltageValid.calls k _ _ l0_0 _ _ l0_1 a1 _ _ l2 false _ ?side1 ?side2 ?side3 ?side4 ?side5 ?side6 A4.out).mono ?_); (case side1 => exact zC HR0_0 HB); (case side2 => exact HC0_0.out); (case side3 => exact zC HR0_1 HB); (case side4 => exact HC0_1.out); (case side5 => repeat (first | exact (Kd.V_reads' HO2.out).2.2 | (with_reducible refine cA ?_ _) | (with_reducible refine cN ?_ _) | (with_reducible refine cD ?_))); (case side6 => exact (Kd.V_reads' HO2.out).2.1); rintro e w71 ⟨rfl, hb⟩; refine ⟨_, rfl, ?_⟩; replace HO2 := A0_ (Kd.V_below (by (with_reducible repeat (first | apply Kd.V_alloc | apply Kd.V_drewN | apply Kd.V_drew)); exact HO2.out) hb); replace BK405 := zK BK405 hb; replace HB := zB HB hb; (try clear hb)))
 go_ret2
 exact ⟨_, by first | rfl | (simp [*] <;> rfl), by first | exact Kd.S_nil _ _ _ _ _ | exact Kd.N_nil _ _ _ _ _ | exact Kd.V_nil _ _ _ _ _ | exact Kd.Q_nil _ _ _ _ _ | exact Kd.R_nil _ _ _ _ _, zB_ HB⟩

/-- A state of type 84 at block g of W; what its slices lead to came in by w0. -/
def IsS84 (w0 W : World) (g : Nat) (f0 : List Int) (f1 : Int) : Prop := ∃ A0 c0, W.heap[g]? = some (.cells #[.slice A0 f0.length c0, .int .i64 f1] 84 (0, 0)) ∧ w0.heap.size ≤ g ∧ Kd.C (Kd.int .u8) w0 A0 f0.length f0
theorem IsS84.grown {w0 W : World} {g : Nat} {f0 : List Int} {f1 : Int} {W1 : World} {row : Option Nat} (h : IsS84 w0 W g f0 f1) (hw : W.grownBy W1 row) (hne : some g ≠ row) : IsS84 w0 W1 g f0 f1 := by
  obtain ⟨A0, c0, hb, hg, hr0⟩ := h
  exact ⟨A0, c0, blk_grown hb hw hne, hg, hr0⟩
theorem IsS84.own_neN {w0 W : World} {g : Nat} {f0 : List Int} {f1 : Int} {α : Type} {d : Kd α} {e : Nat} {base : Nat} {ok : Nat → Prop} {v : Value} {xs : List α} (h : IsS84 w0 W g f0 f1) (ho : Kd.N d e W base ok v xs) (ht : e ≠ 84) : some g ≠ v.ownBlock := by
  obtain ⟨A0, c0, hb, hg, hr0⟩ := h
  exact Kd.N_ne ho hb ht
theorem IsS84.fresh {w0 W : World} {g : Nat} {f0 : List Int} {f1 : Int} (h : IsS84 w0 W g f0 f1) : ∀ k, W.heap.size ≤ k → k ≠ g := by
  obtain ⟨A0, c0, hb, hg, hr0⟩ := h
  exact Kd.freshB hb
theorem IsS84.kept {w0 W : World} {g : Nat} {f0 : List Int} {f1 : Int} {W1 : World} {S : Nat → Prop} (h : IsS84 w0 W g f0 f1) (hk : Kept W W1 S) (hne : ¬ S g) : IsS84 w0 W1 g f0 f1 := by
  obtain ⟨A0, c0, hb, hg, hr0⟩ := h
  exact ⟨A0, c0, blk_kept hb hk hne, hg, hr0⟩
theorem IsS84.below {w0 W : World} {g : Nat} {f0 : List Int} {f1 : Int} {W1 : World} (h : IsS84 w0 W g f0 f1) (hw : Below W.heap.size W W1) : IsS84 w0 W1 g f0 f1 := h.grown (grown_of_below hw none) (by simp)
theorem IsS84.alloc {w0 W : World} {g : Nat} {f0 : List Int} {f1 : Int} (h : IsS84 w0 W g f0 f1) (o : Obj) : IsS84 w0 (W.alloc o) g f0 f1 := h.below (bA (Below.refl _ _) o)
theorem IsS84.drewN {w0 W : World} {g : Nat} {f0 : List Int} {f1 : Int} (h : IsS84 w0 W g f0 f1) (m : Nat) : IsS84 w0 (W.drewN m) g f0 f1 := h
theorem IsS84.drew {w0 W : World} {g : Nat} {f0 : List Int} {f1 : Int} (h : IsS84 w0 W g f0 f1) : IsS84 w0 W.drew g f0 f1 := h
theorem IsS84.at_ {w0 W : World} {g : Nat} {f0 : List Int} {f1 : Int} {w' : World} {m : Nat} (hq : W.drewN m = w') (h : IsS84 w0 W g f0 f1) : IsS84 w0 w' g f0 f1 := by subst hq; exact IsS84.drewN h m
theorem IsS84.apart {w0 W : World} {g : Nat} {f0 : List Int} {f1 : Int} {α : Type} {d : Kd α} {e : Nat} {base : Nat} {ok : Nat → Prop} {v : Value} {xs : List α} (h : IsS84 w0 W g f0 f1) (ho : d.R e W base ok v xs) (ht : ∀ q, q ∈ e :: d.E → q ≠ 84) : d.R e W base (fun k => ok k ∧ k ≠ g) v xs := by
  obtain ⟨A0, c0, hb, hg, hr0⟩ := h
  exact rY ho hb ht
theorem IsS84.own_ne {w0 W : World} {g : Nat} {f0 : List Int} {f1 : Int} {α : Type} {d : Kd α} {e : Nat} {base : Nat} {ok : Nat → Prop} {v : Value} {xs : List α} (h : IsS84 w0 W g f0 f1) (ho : d.R e W base ok v xs) (ht : e ≠ 84) : some g ≠ v.ownBlock := by
  obtain ⟨A0, c0, hb, hg, hr0⟩ := h
  exact Kd.R_ne ho hb ht
theorem IsS84.apartQ {w0 W : World} {g : Nat} {f0 : List Int} {f1 : Int} {α : Type} {d : Kd α} {e : Nat} {base : Nat} {ok : Nat → Prop} {v : Value} {xs : List α} (h : IsS84 w0 W g f0 f1) (ho : d.Q e W base ok v xs) (ht : ∀ q, q ∈ e :: d.E → q ≠ 84) : d.Q e W base (fun k => ok k ∧ k ≠ g) v xs := by
  obtain ⟨A0, c0, hb, hg, hr0⟩ := h
  exact Kd.Q_types ho hb ht
theorem IsS84.own_neQ {w0 W : World} {g : Nat} {f0 : List Int} {f1 : Int} {α : Type} {d : Kd α} {e : Nat} {base : Nat} {ok : Nat → Prop} {v : Value} {xs : List α} (h : IsS84 w0 W g f0 f1) (ho : d.Q e W base ok v xs) (ht : e ≠ 84) : some g ≠ v.ownBlock := by
  obtain ⟨A0, c0, hb, hg, hr0⟩ := h
  exact Kd.Q_ne ho hb ht
theorem IsS84.apartS {w0 W : World} {g : Nat} {f0 : List Int} {f1 : Int} {α : Type} {d : Kd α} {e : Nat} {base : Nat} {ok : Nat → Prop} {v : Value} {xs : List α} (h : IsS84 w0 W g f0 f1) (ho : d.S e W base ok v xs) (ht : ∀ q, q ∈ e :: d.E → q ≠ 84) : d.S e W base (fun k => ok k ∧ k ≠ g) v xs := by
  obtain ⟨A0, c0, hb, hg, hr0⟩ := h
  exact Kd.S_types ho hb ht
theorem IsS84.own_neS {w0 W : World} {g : Nat} {f0 : List Int} {f1 : Int} {α : Type} {d : Kd α} {e : Nat} {base : Nat} {ok : Nat → Prop} {v : Value} {xs : List α} (h : IsS84 w0 W g f0 f1) (ho : d.S e W base ok v xs) (ht : e ≠ 84) : some g ≠ v.ownBlock := by
  obtain ⟨A0, c0, hb, hg, hr0⟩ := h
  exact Kd.S_ne ho hb ht
theorem IsS84.lt {w0 W : World} {g : Nat} {f0 : List Int} {f1 : Int} (h : IsS84 w0 W g f0 f1) : g < W.heap.size := by
  obtain ⟨A0, c0, hb, hg, hr0⟩ := h
  exact kL hb
theorem IsS84.ge {w0 W : World} {g : Nat} {f0 : List Int} {f1 : Int} (h : IsS84 w0 W g f0 f1) : w0.heap.size ≤ g := by
  obtain ⟨A0, c0, hb, hg, hr0⟩ := h
  exact hg
theorem IsS84.ne_blk {w0 W : World} {g : Nat} {f0 : List Int} {f1 : Int} {a : Nat} {cs : Array Value} {t : TypeId} {fr : Nat × Nat} (h : IsS84 w0 W g f0 f1) (hb2 : W.heap[a]? = some (.cells cs t fr)) (ht : t ≠ 84) : g ≠ a := by
  obtain ⟨A0, c0, hb, hg, hr0⟩ := h
  rintro rfl
  rw [hb] at hb2
  injection hb2 with hb2
  injection hb2 with _ ht2
  exact ht ht2.symm
theorem IsS84.far {w0 W : World} {g : Nat} {f0 : List Int} {f1 : Int} {p : Addr} (h : IsS84 w0 W g f0 f1) (hne : g ≠ p.block) (u : Value) : IsS84 w0 (W.setCell p u) g f0 f1 := by
  obtain ⟨A0, c0, hb, hg, hr0⟩ := h
  exact ⟨A0, c0, blk_far hb hne u, hg, hr0⟩
theorem cellS84_0 {W : World} {g : Nat} {A0 : Option Addr} {c0 : Nat} {f0 : List Int} {f1 : Int} (h : W.heap[g]? = some (.cells #[.slice A0 f0.length c0, .int .i64 f1] 84 (0, 0))) : W.cell? ⟨g, 0, none⟩ = some (.slice A0 f0.length c0) := (kC h 0).trans rfl
theorem cellS84_1 {W : World} {g : Nat} {A0 : Option Addr} {c0 : Nat} {f0 : List Int} {f1 : Int} (h : W.heap[g]? = some (.cells #[.slice A0 f0.length c0, .int .i64 f1] 84 (0, 0))) : W.cell? ⟨g, 1, none⟩ = some (.int .i64 f1) := (kC h 1).trans rfl
theorem IsS84.set_1 {w0 W : World} {g : Nat} {f0 : List Int} {f1 : Int} (h : IsS84 w0 W g f0 f1) (x : Int) : IsS84 w0 (W.setCell ⟨g, 1, none⟩ (.int .i64 x)) g f0 x := by
  obtain ⟨A0, c0, hb, hg, hr0⟩ := h
  exact ⟨A0, c0, by simpa using blk_set hb 1 (.int .i64 x), hg, hr0⟩
theorem IsS84.new (w0 W : World) (A0 : Option Addr) (c0 : Nat) (f0 : List Int) (f1 : Int) (hB : Below w0.heap.size w0 W) (hr0 : Kd.C (Kd.int .u8) w0 A0 f0.length f0) : IsS84 w0 (W.alloc (.cells #[.slice A0 f0.length c0, .int .i64 f1] 84)) W.heap.size f0 f1 := ⟨A0, c0, by simpa using heap_alloc_new W _, hB.size, hr0⟩

/-! ### spec_l6Open: function 93 -/
def spec_l6Open.f (l0 : List Int) : Option (List Int × Int) := if (l0.length : Int) > 2000 then (if 2000 ≤ (l0.length : Int) then (some (l0.take 2000, 0)) else (none)) else (some (l0, 0))
set_option maxHeartbeats 8000000 in
set_option maxRecDepth 100000 in
theorem spec_l6Open.calls (A0 : Option Addr) (c0 : Nat) (l0 : List Int) (r1 : List Int) (r2 : Int) (w0 w : World) (hB : Below w0.heap.size w0 w) (hr0 : Kd.C (Kd.int .u8) w0 A0 l0.length l0) (hc0 : l0.length ≤ c0) (h : spec_l6Open.f l0 = some (r1, r2)) :
    Calls Try.prog 93 #[.slice A0 l0.length c0] w fun e w' => ∃ g_ : Nat, e = .returned (.pointer (some ⟨g_, 0, none⟩)) ∧ IsS84 w0 w' g_ r1 r2 ∧ Below w0.heap.size w0 w' ∧ Below w.heap.size w w' := by
 have hu84 := Try.underlying84; have HR0 := A0_ hr0; have HC0 := A0_ hc0; clear hr0 hc0
 have HBW := A0_ (Below.refl w.heap.size w)
 have HW0 := A0_ hB.size; have HB := A0_ hB; clear hB
 have H : (if (l0.length : Int) > 2000 then (if 2000 ≤ (l0.length : Int) then (some (l0.take 2000, 0)) else (none)) else (some (l0, 0))) = some (r1, r2) := h
 clear h
 by_cases c2 : (l0.length : Int) > 2000
 ·rw [if_pos c2] at H
  have c2b0 : decide (2000 < (l0.length : Int)) = true := dT c2
  have c2b1 : decide (2000 < l0.length) = true := dT (by omega)
  clear c2
  by_cases c3 : 2000 ≤ (l0.length : Int)
  ·rw [if_pos c3] at H
   have c3b0 := eq_true c3; have c3b1 := dT c3; clear c3; simp only [Option.some.injEq, Prod.mk.injEq] at H; obtain ⟨rfl, rfl⟩ := H; obtain ⟨i04, hi04, _, hsz4, _⟩ := info_parts info5
   obtain ⟨hcut4, hA4, hC4⟩ := print_take_of (P := Try.prog) (Value.int .u8) 0 53 5 .i64 Try.underlying53 hi04 hsz4 A0 c0 l0 2000 (by omega) (zd) HC0.out
   have HR442 := A0_ (Kd.C_of_reads (h1 := fun _ => rfl) (hA4 _ (Kd.reads_of_C HR0.out)))
   have HC442 := A0_ hC4; clear hA4 hC4 hi04 hsz4
   go_enter Try.func93, Try.ntmps93
   go_wp2_with (first | ((with_reducible refine gD (N := 10) rfl ?_); refine zX (N := 10) (cs := #[.slice A0 (l0.take 2000).length c0, .int .i64 0]) (t := 84) ?_; intro gb443 hg w5 hbox hb; replace HB := zB HB hb; have BK443 := A0_ (hbox); have GW443 := A0_ ((by rw [hg]; exact (bZ (by repeat (first | (with_reducible first | exact HBW.out | apply bA | apply bN | apply bD) | exact HBW.out))) : w.heap.size ≤ gb443)); have GE443 := A0_ ((Nat.le_trans HW0.out (by rw [hg]; exact (bZ (by repeat (first | (with_reducible first | exact HBW.out | apply bA | apply bN | apply bD) | exact HBW.out))) : w.heap.size ≤ gb443) : w0.heap.size ≤ gb443)); replace HBW := A0_ (bT HBW.out hb); clear hb hbox hg))
   go_ret
   exact ⟨_, rfl, (show IsS84 w0 _ gb443 (l0.take 2000) 0 from ⟨_, _, zK_ BK443, GE443.out, HR442.out⟩), zB_ HB, by repeat (first | (with_reducible first | exact HBW.out | apply bA | apply bN | apply bD | refine bS ?_ GW443.out) | exact HBW.out)⟩
  rw [if_neg c3] at H
  exact absurd H (by simp)
 rw [if_neg c2] at H
 have c2b0 : decide (2000 < (l0.length : Int)) = false := dF c2
 have c2b1 : decide (2000 < l0.length) = false := dF (by omega)
 clear c2; simp only [Option.some.injEq, Prod.mk.injEq] at H; obtain ⟨rfl, rfl⟩ := H
 go_enter Try.func93, Try.ntmps93
 go_wp2_with (first | ((with_reducible refine gD (N := 10) rfl ?_); refine zX (N := 10) (cs := #[.slice A0 l0.length c0, .int .i64 0]) (t := 84) ?_; intro gb444 hg w6 hbox hb; replace HB := zB HB hb; have BK444 := A0_ (hbox); have GW444 := A0_ ((by rw [hg]; exact (bZ (by repeat (first | (with_reducible first | exact HBW.out | apply bA | apply bN | apply bD) | exact HBW.out))) : w.heap.size ≤ gb444)); have GE444 := A0_ ((Nat.le_trans HW0.out (by rw [hg]; exact (bZ (by repeat (first | (with_reducible first | exact HBW.out | apply bA | apply bN | apply bD) | exact HBW.out))) : w.heap.size ≤ gb444) : w0.heap.size ≤ gb444)); replace HBW := A0_ (bT HBW.out hb); clear hb hbox hg))
 go_ret
 exact ⟨_, rfl, (show IsS84 w0 _ gb444 l0 0 from ⟨_, _, zK_ BK444, GE444.out, HR0.out⟩), zB_ HB, by repeat (first | (with_reducible first | exact HBW.out | apply bA | apply bN | apply bD | refine bS ?_ GW444.out) | exact HBW.out)⟩

end Go.Proofs.Ytmcgkckdnelcdaa.PFnTrivial
