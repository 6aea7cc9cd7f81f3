-- Made by a program of this session (wip/tools) out of the loaded program; not trusted: Lean checks it.
import Derived.Test.YtmegggomhjgehaaPFnBranchx0
import Derived.Test.YtmegggomhjgehaaPFnBranchx3
import Derived.Test.YtmegggomhjgehaaPFnBranchx4
-- packed
namespace Go.Proofs.Ytmegggomhjgehaa.PFnBranch
open Go.RowKit Go.Proofs.YtmegggomhjgehaaW.PrintWords Go.Proofs.YtmegggomhjgehaaW.PrintLast Go.Proofs.YtmegggomhjgehaaW.PrintMore
attribute [local go_sem] max2_int min2_int max_two min_two max_three min_three max_four min_four   -- for this text's walks alone
set_option linter.unusedVariables false
set_option linter.unusedSimpArgs false

/-! ### impl_edgeOf: function 104 -/
def impl_edgeOf.l0 : Nat → List Int → List Int → Int → Int → List Int → List Int → Option (List Int)
  | 0, _, _, _, _, _, _ => none
  | k + 1, x3, x11, x12, x13, x199000, x199001 => if x13 < x12 then (if 0 ≤ x13 then (if x13 < (x11.length : Int) then (if 0 ≤ (rd x11 x13) then (if (rd x11 x13) < (x199001.length : Int) then (if (rd x11 x13) < (x3.length : Int) then (if 0 ≤ (rd x199001 (rd x11 x13)) then (if (rd x199001 (rd x11 x13)) < (x3.length : Int) then (impl_edgeOf.l0 k ((x3.set ((rd x11 x13) : Int).toNat x13).set ((rd x199001 (rd x11 x13)) : Int).toNat x13) x11 x12 (wrap64 (x13 + 1)) x199000 x199001) else (none)) else (none)) else (none)) else (none)) else (none)) else (none)) else (none)) else (some x3)
def impl_edgeOf.f (k : Nat) (l0_0 : List Int) (l0_1 : List Int) : Option (List Int) := if 0 ≤ (l0_1.length : Int) then (if ((l0_1.length : Int) : Int).toNat ≤ 35184372088832 then ((impl_edgesOf.f k l0_0 l0_1).bind fun t202 => (impl_edgeOf.l0 k (List.replicate ((l0_1.length : Int) : Int).toNat 0) t202 (t202.length : Int) 0 l0_0 l0_1)) else (none)) else (none)
set_option maxHeartbeats 8000000 in
set_option maxRecDepth 100000 in
theorem impl_edgeOf.calls (k : Nat) (A0_0 : Option Addr) (c0_0 : Nat) (l0_0 : List Int) (A0_1 : Option Addr) (c0_1 : Nat) (l0_1 : List Int) (r : List Int) (w : World) (hr0_0 : Kd.C (Kd.int .i64) w A0_0 l0_0.length l0_0) (hc0_0 : l0_0.length ≤ c0_0) (hr0_1 : Kd.C (Kd.int .i64) w A0_1 l0_1.length l0_1) (hc0_1 : l0_1.length ≤ c0_1) (h : impl_edgeOf.f k l0_0 l0_1 = some r) :
    Calls Try.prog 104 #[.agg #[.slice A0_0 l0_0.length c0_0, .slice A0_1 l0_1.length c0_1]] w fun e w' => ∃ v0_ : Value, e = .returned (v0_) ∧ Kd.R (Kd.int .i64) 3 w' w.heap.size (fun _ => True) v0_ r ∧ Below w.heap.size w w' := by
 have hu25 := Try.underlying25; have HR0_0 := A0_ hr0_0; have HC0_0 := A0_ hc0_0; clear hr0_0 hc0_0; have HR0_1 := A0_ hr0_1; have HC0_1 := A0_ hc0_1; clear hr0_1 hc0_1
 have HB := A0_ (Below.refl w.heap.size w)
 have H : (if 0 ≤ (l0_1.length : Int) then (if ((l0_1.length : Int) : Int).toNat ≤ 35184372088832 then ((impl_edgesOf.f k l0_0 l0_1).bind fun t202 => (impl_edgeOf.l0 k (List.replicate ((l0_1.length : Int) : Int).toNat 0) t202 (t202.length : Int) 0 l0_0 l0_1)) else (none)) else (none)) = some r := h
 clear h
 by_cases c2 : 0 ≤ (l0_1.length : Int)
 ·rw [if_pos c2] at H
  have c2b0 := eq_true c2; have c2b1 := dT c2; clear c2
  by_cases c3 : ((l0_1.length : Int) : Int).toNat ≤ 35184372088832
  ·rw [if_pos c3] at H
   have c3b0 := eq_true c3; have c3b1 := dT c3; clear c3
   obtain ⟨y199, hy199⟩ : ∃ y_ : List Int, y_ = (List.replicate ((l0_1.length : Int) : Int).toNat 0) := ⟨_, rfl⟩
   replace H : ((impl_edgesOf.f k l0_0 l0_1).bind fun t202 => (impl_edgeOf.l0 k y199 t202 (t202.length : Int) 0 l0_0 l0_1)) = some r := zH hy199 H
   have Ny199 := A0_ hy199; clear hy199; obtain ⟨t202, A4, H⟩ := zbind H; have H' := A0_ H; clear H
   go_enter Try.func104, Try.ntmps104
   go_wp2_with (first | ((with_reducible refine gD (N := 1) rfl ?_); refine zX (N := 1) (cs := #[.slice A0_0 l0_0.length c0_0, .slice A0_1 l0_1.length c0_1]) (t := 25) ?_; intro gb198 hg w5 hbox hb; have BK198 := A0_ (hbox); have GW198 := zG hg HB; have GE198 := zG hg HB; replace HB := zB HB hb; clear hb hbox hg; have hcz6_0 := zc0 BK198; have hcz6_1 := zc1 BK198; have hfz6_0 := kF BK198.out 0; have hfz6_1 := kF BK198.out 1) | ((with_reducible refine gD (N := 9) rfl ?_); refine Kd.R_make (Kd.int .i64) _ 3 rfl (N := 9) rfl 23 _ _ rfl (l0_1.length : Int) rfl rfl Try.underlying23 (.int .i64 0) 8 info3 rfl (by decide) (by omega) 0 (ok := fun _ => True) (okp := fun _ => True) rfl (fun _ hk => hk) trivial (zd) (Nat.le_trans (Nat.mul_le_mul_right _ (zd : (l0_1.length : Int).toNat ≤ 35184372088832)) (by omega)) (Below.refl _ _) (Nat.le_refl _) ?_; intro v200 w7 ho8 hb hg_ hnew_; clear hg_ hnew_; (first | rw [← Ny199.out] at ho8 | (simp only [Int.reduceToNat] at ho8; rw [← Ny199.out] at ho8)); have HO201 := A0_ (rL ho8 (bZ (zB_ HB))); replace BK198 := zK BK198 hb; replace HB := zB HB hb; clear hb ho8; have hcz9_0 := zc0 BK198; have hcz9_1 := zc1 BK198; have hfz9_0 := kF BK198.out 0; have hfz9_1 := kF BK198.out 1) | ((with_reducible refine gC (f := 105) rfl ?_); refine zJ (some 11) Try.func105 #[.agg #[.slice A0_0 l0_0.length c0_0, .slice A0_1 l0_1.length c0_1]] ?_; (with_reducible refine (impl_edgesOf.calls k _ _ l0_0 _ _ l0_1 t202 _ ?side1 ?side2 ?side3 ?side4 A4.out).mono ?_); (case side1 => exact zC HR0_0 HB); (case side2 => exact HC0_0.out); (case side3 => exact zC HR0_1 HB); (case side4 => exact HC0_1.out); rintro e w10 ⟨v203, rfl, ho0, hb⟩; refine ⟨_, rfl, ?_⟩; have HO204 := A0_ (rL (Kd.R_new' ho0 (rX (zR_ HO201))) (bZ (zB_ HB))); replace HO201 := A0_ (Kd.R_elder' (zR_ HO201) (Kd.R_base ho0) hb); replace BK198 := zK BK198 hb; replace HB := zB HB hb; (try clear hb); (try clear ho0); obtain ⟨Ao11, co11, eo11⟩ := rS HO204.out; subst eo11))
   go_loopg [13] k (fun kq v13 w' => ∃ (x3_1 : List Int) (x13_1 : Int), v13 = .int .i64 x13_1 ∧ Aside0 (impl_edgeOf.l0 kq x3_1 t202 (t202.length : Int) x13_1 l0_0 l0_1 = some r) ∧ Aside0 (kq ≤ k) ∧ Aside0 (Kd.R (Kd.int .i64) 3 w' w.heap.size (fun k_ => some k_ ≠ ((.slice Ao11 t202.length co11) : Value).ownBlock) v200 x3_1) ∧ Aside0 (Kd.R (Kd.int .i64) 3 w' w.heap.size (fun k_ => some k_ ≠ (v200 : Value).ownBlock) (.slice Ao11 t202.length co11) t202) ∧ Aside0 (w'.heap[gb198]? = some (.cells #[(.slice A0_0 l0_0.length c0_0), (.slice A0_1 l0_1.length c0_1)] 25 (0, 0))) ∧ Aside0 (Below w.heap.size w w'))
   case atStart => exact ⟨(y199), (0), zt, H', ⟨Nat.le_refl _⟩, ⟨zmR HO201 (fun _ hk => hk.2)⟩, ⟨zmR HO204 (fun _ hk => hk.2)⟩, ⟨zK_ BK198⟩, ⟨zB_ HB⟩⟩
   case round =>
    clear H'; (try clear c1); (try clear c2); (try clear c2b0); (try clear c2b1); (try clear p2); (try clear c3); (try clear c3b0); (try clear c3b1); (try clear c10); (try clear hcz6_0); (try clear hcz6_1); (try clear hcz9_0); (try clear hcz9_1); (try clear hfz6_0); (try clear hfz6_1); (try clear hfz9_0); (try clear hfz9_1); obtain ⟨x3_1, x13_1, rfl, HA, HK1, HO_3, HO_11, BK198, HB⟩ := hrel
    cases gk with
    | zero => exact absurd HA.out (by simp [impl_edgeOf.l0])
    | succ k1 =>
     have H := HA.out; clear HA; simp only [impl_edgeOf.l0] at H
     by_cases c12 : x13_1 < (t202.length : Int)
     ·rw [if_pos c12] at H
      have c12b0 := dT c12; clear c12
      by_cases c13 : 0 ≤ x13_1
      ·rw [if_pos c13] at H
       have c13b0 := dT c13; clear c13
       by_cases c14 : x13_1 < (t202.length : Int)
       ·rw [if_pos c14] at H
        have c14b0 := dT c14; clear c14
        by_cases c15 : 0 ≤ (rd t202 x13_1)
        ·rw [if_pos c15] at H
         have c15b0 := dT c15; clear c15
         by_cases c16 : (rd t202 x13_1) < (l0_1.length : Int)
         ·rw [if_pos c16] at H
          have c16b0 := dT c16; clear c16
          by_cases c17 : (rd t202 x13_1) < (x3_1.length : Int)
          ·rw [if_pos c17] at H
           have c17b0 := dT c17; clear c17
           obtain ⟨y207, hy207⟩ : ∃ y_ : List Int, y_ = (x3_1.set ((rd t202 x13_1) : Int).toNat x13_1) := ⟨_, rfl⟩
           replace H : (if 0 ≤ (rd l0_1 (rd t202 x13_1)) then (if (rd l0_1 (rd t202 x13_1)) < (x3_1.length : Int) then (impl_edgeOf.l0 k1 (y207.set ((rd l0_1 (rd t202 x13_1)) : Int).toNat x13_1) t202 (t202.length : Int) (wrap64 (x13_1 + 1)) l0_0 l0_1) else (none)) else (none)) = some r := zH hy207 H
           have Ny207 := A0_ hy207; clear hy207
           by_cases c19 : 0 ≤ (rd l0_1 (rd t202 x13_1))
           ·rw [if_pos c19] at H
            have c19b0 := dT c19; clear c19
            by_cases c20 : (rd l0_1 (rd t202 x13_1)) < (x3_1.length : Int)
            ·rw [if_pos c20] at H
             have c20b0 := dT c20; clear c20
             obtain ⟨y208, hy208⟩ : ∃ y_ : List Int, y_ = (y207.set ((rd l0_1 (rd t202 x13_1)) : Int).toNat x13_1) := ⟨_, rfl⟩
             replace H : (impl_edgeOf.l0 k1 y208 t202 (t202.length : Int) (wrap64 (x13_1 + 1)) l0_0 l0_1) = some r := zH hy208 H
             have Ny208 := A0_ hy208; clear hy208; have H' := A0_ H; clear H
             have p205 : 0 ≤ (x13_1 : Int) := zd
             have q205 : x13_1 < (t202.length : Int) := zd
             obtain ⟨ad205, e205, hx205_0⟩ := tI (rR HO_11.out).2.2 x13_1 p205 q205
             cases e205
             replace p205 := eq_true p205; replace q205 := eq_true q205; have hcz22_0 := zc0 BK198; have hcz22_1 := zc1 BK198; have hfz22_0 := kF BK198.out 0; have hfz22_1 := kF BK198.out 1
             have p206 : 0 ≤ ((rd t202 x13_1) : Int) := zd
             have q206 : (rd t202 x13_1) < (l0_1.length : Int) := zd
             obtain ⟨ad206, e206, hx206_0⟩ := tI HR0_1.out (rd t202 x13_1) p206 q206
             cases e206
             try replace hx206_0 := (HB.out.cell (wL w _ hx206_0)).trans hx206_0
             replace p206 := eq_true p206; replace q206 := eq_true q206
             have p18 : 0 ≤ ((rd t202 x13_1) : Int) := zd
             have q18 : ((rd t202 x13_1) : Int) < ((x3_1.length : Int) : Int) := zd
             obtain ⟨go18, co18, eo18, gb18, gl18, cl18, HG18⟩ := Kd.R_form HO_3.out (by omega)
             (first | cases eo18 | (injection eo18 with ea_ en_ ec_; (first | subst ea_ | (injection ea_ with ea_; subst ea_)); subst ec_; clear en_))
             have GB18 := A0_ gb18; have GG18 := A0_ HG18; clear gb18 gl18 HG18
             obtain ⟨hx18_0, hf18_0⟩ := Kd.R_celln 0 HO_3.out ((rd t202 x13_1) : Int) p18 q18
             replace p18 := eq_true p18; replace q18 := eq_true q18
             have HP23 := Kd.R_putg HO_3.out ((rd t202 x13_1) : Int) x13_1
             go_wp2_with (first | ((with_reducible refine gS (t := 3) (p := 28) rfl ?_); refine store_event (t := 3) (p := 28) (v := ?vo_w24) (w1 := (wr.setCell ⟨go18, ((rd t202 x13_1) : Int).toNat, none⟩ (.int .i64 x13_1))) ?hg ?ho ?hn ?hr ?_; (case ho => rfl); (case hg => rfl); (case hn => rfl); (case hr => first | (go_simp; done) | (go_simp; rfl)); intro w24 hw; have hg : wr.grownBy w24 (some go18) := (by rw [hw]; exact HP23.2); have hp_ : Kd.R (Kd.int .i64) 3 w24 w.heap.size (fun k_ => some k_ ≠ (.slice (some ad205) t202.length co11 : Value).ownBlock) (.slice (some ⟨go18, 0, none⟩) x3_1.length co18) y207 := (by rw [hw, Ny207.out]; exact HP23.1); clear HP23; replace HO_11 := A0_ (Kd.R_after (v := (.slice (some ⟨go18, 0, none⟩) x3_1.length co18)) (v1 := (.slice (some ⟨go18, 0, none⟩) x3_1.length co18)) (ok := (fun _ => True)) (zmR HO_11 (fun _ hk => ⟨trivial, hk⟩)) hg (.inl rfl)); replace BK198 := A0_ (blk_grown (g := gb198) (o := .cells #[.slice A0_0 l0_0.length c0_0, .slice (some ad206) l0_1.length c0_1] 25 (0, 0)) (zK_ BK198) hg (Kd.R_ne HO_3.out BK198.out (by decide))); replace HO_3 := A0_ (hp_); replace HB := A0_ ((by rw [hw]; exact bS (HB.out) GB18.out : Below w.heap.size w w24)); clear hg hw hp_; have p21 : 0 ≤ ((rd l0_1 (rd t202 x13_1)) : Int) := zd; have q21 : ((rd l0_1 (rd t202 x13_1)) : Int) < ((x3_1.length : Int) : Int) := zd; obtain ⟨hx21_0, hf21_0⟩ := Kd.R_celln 0 HO_3.out ((rd l0_1 (rd t202 x13_1)) : Int) p21 q21; replace p21 := eq_true p21; replace q21 := eq_true q21; obtain ⟨hy25_, hz25_⟩ := Kd.R_celln 0 HO_3.out ((rd l0_1 (rd t202 x13_1)) : Int) (zd) (zd); have HP25 := Kd.R_putg HO_3.out ((rd l0_1 (rd t202 x13_1)) : Int) x13_1) | ((with_reducible refine gS (t := 3) (p := 29) rfl ?_); refine store_event (t := 3) (p := 29) (v := ?vo_w26) (w1 := (w24.setCell ⟨go18, ((rd l0_1 (rd t202 x13_1)) : Int).toNat, none⟩ (.int .i64 x13_1))) ?hg ?ho ?hn ?hr ?_; (case ho => rfl); (case hg => rfl); (case hn => rfl); (case hr => first | (go_simp; done) | (go_simp; rfl)); intro w26 hw; have hg : w24.grownBy w26 (some go18) := (by rw [hw]; exact HP25.2); have hp_ : Kd.R (Kd.int .i64) 3 w26 w.heap.size (fun k_ => some k_ ≠ (.slice (some ad205) t202.length co11 : Value).ownBlock) (.slice (some ⟨go18, 0, none⟩) x3_1.length co18) y208 := (by rw [hw, Ny208.out]; exact HP25.1); clear HP25; replace HO_11 := A0_ (Kd.R_after (v := (.slice (some ⟨go18, 0, none⟩) x3_1.length co18)) (v1 := (.slice (some ⟨go18, 0, none⟩) x3_1.length co18)) (ok := (fun _ => True)) (zR_ HO_11) hg (.inl rfl)); replace BK198 := A0_ (blk_grown (g := gb198) (o := .cells #[.slice A0_0 l0_0.length c0_0, .slice (some ad206) l0_1.length c0_1] 25 (0, 0)) (zK_ BK198) hg (Kd.R_ne HO_3.out BK198.out (by decide))); replace HO_3 := A0_ (hp_); replace HB := A0_ ((by rw [hw]; exact bS (HB.out) GB18.out : Below w.heap.size w w26)); clear hg hw hp_))
             go_roundg k1
             case measure => have := HK1.out; omega
             case rel => exact ⟨(y208), (wrap64 (x13_1 + 1)), zt, H', ⟨by have := HK1.out; omega⟩, ⟨zR_ HO_3⟩, ⟨zmR HO_11 (fun _ hk => hk.2)⟩, ⟨zK_ BK198⟩, ⟨zB_ HB⟩⟩
            rw [if_neg c20] at H
            exact absurd H (by simp)
           rw [if_neg c19] at H
           exact absurd H (by simp)
          rw [if_neg c17] at H
          exact absurd H (by simp)
         rw [if_neg c16] at H
         exact absurd H (by simp)
        rw [if_neg c15] at H
        exact absurd H (by simp)
       rw [if_neg c14] at H
       exact absurd H (by simp)
      rw [if_neg c13] at H
      exact absurd H (by simp)
     rw [if_neg c12] at H; have c12b0 := dF c12; clear c12; obtain rfl := sI H
     go_wp2
     go_ret
     exact ⟨_, by first | rfl | (simp [*] <;> rfl), zmR HO_3 (fun _ hk => trivial), zB_ HB⟩
  rw [if_neg c3] at H
  exact absurd H (by simp)
 rw [if_neg c2] at H
 exact absurd H (by simp)

/-! ### impl_along: function 62 -/
def impl_along.f (k : Nat) (l0_0 : List Int) (l0_1 : List Int) (l1 : List (List Int)) (a2 : Int) : Option (List Int) := (impl_edgeOf.f k l0_0 l0_1).bind fun t210 => (if 0 ≤ a2 then (if a2 < (t210.length : Int) then (if 0 ≤ (rd t210 a2) then (if (rd t210 a2) < (l1.length : Int) then (if a2 < (l0_1.length : Int) then (if a2 > (rd l0_1 a2) then ((impl_back.f k (rd_L1 l1 (rd t210 a2))).bind fun t216 => (some t216)) else (some (rd_L1 l1 (rd t210 a2)))) else (none)) else (none)) else (none)) else (none)) else (none))
set_option maxHeartbeats 8000000 in
set_option maxRecDepth 100000 in
theorem impl_along.calls (k : Nat) (A0_0 : Option Addr) (c0_0 : Nat) (l0_0 : List Int) (A0_1 : Option Addr) (c0_1 : Nat) (l0_1 : List Int) (P1_ : Nat → Prop) (A1 : Option Addr) (c1 : Nat) (l1 : List (List Int)) (a2 : Int) (r : List Int) (w : World) (hr0_0 : Kd.C (Kd.int .i64) w A0_0 l0_0.length l0_0) (hc0_0 : l0_0.length ≤ c0_0) (hr0_1 : Kd.C (Kd.int .i64) w A0_1 l0_1.length l0_1) (hc0_1 : l0_1.length ≤ c0_1) (hs1 : Kd.V (Kd.slice 3 (Kd.int .i64)) 23 w w.heap.size (fun k_ => P1_ k_) (.slice A1 l1.length c1) l1) (h : impl_along.f k l0_0 l0_1 l1 a2 = some r) :
    Calls Try.prog 62 #[.agg #[.slice A0_0 l0_0.length c0_0, .slice A0_1 l0_1.length c0_1], .slice A1 l1.length c1, .int .i64 a2] w fun e w' => ∃ v0_ : Value, e = .returned (v0_) ∧ Kd.V (Kd.int .i64) 3 w' w.heap.size (fun k_ => (P1_ k_ ∨ w.heap.size ≤ k_)) v0_ r ∧ Below w.heap.size w w' := by
 have hu25 := Try.underlying25; have HR0_0 := A0_ hr0_0; have HC0_0 := A0_ hc0_0; clear hr0_0 hc0_0; have HR0_1 := A0_ hr0_1; have HC0_1 := A0_ hc0_1; clear hr0_1 hc0_1
 have HO1 := A0_ (show Kd.V (Kd.slice 3 (Kd.int .i64)) 23 w w.heap.size (fun k_ => (P1_ k_ ∨ w.heap.size ≤ k_)) (.slice A1 l1.length c1) l1 from Kd.V_mono hs1 (fun k_ hk => .inl hk))
 have HB := A0_ (Below.refl w.heap.size w)
 have H : ((impl_edgeOf.f k l0_0 l0_1).bind fun t210 => (if 0 ≤ a2 then (if a2 < (t210.length : Int) then (if 0 ≤ (rd t210 a2) then (if (rd t210 a2) < (l1.length : Int) then (if a2 < (l0_1.length : Int) then (if a2 > (rd l0_1 a2) then ((impl_back.f k (rd_L1 l1 (rd t210 a2))).bind fun t216 => (some t216)) else (some (rd_L1 l1 (rd t210 a2)))) else (none)) else (none)) else (none)) else (none)) else (none))) = some r := h
 clear h; obtain ⟨t210, A4, H⟩ := zbind H
 by_cases c5 : 0 ≤ a2
 ·rw [if_pos c5] at H
  have c5b0 := dT c5; clear c5
  by_cases c6 : a2 < (t210.length : Int)
  ·rw [if_pos c6] at H
   have c6b0 := dT c6; clear c6
   by_cases c7 : 0 ≤ (rd t210 a2)
   ·rw [if_pos c7] at H
    have c7b0 := dT c7; clear c7
    by_cases c8 : (rd t210 a2) < (l1.length : Int)
    ·rw [if_pos c8] at H
     have c8b0 := dT c8; clear c8
     by_cases c9 : a2 < (l0_1.length : Int)
     ·rw [if_pos c9] at H
      have c9b0 := dT c9; clear c9
      by_cases c10 : a2 > (rd l0_1 a2)
      ·rw [if_pos c10] at H
       have c10b0 : decide ((rd l0_1 a2) < a2) = true := dT c10
       clear c10; obtain ⟨t216, A11, H⟩ := zbind H; obtain rfl := sI H
       go_enter Try.func62, Try.ntmps62
       go_wp2_with (first | ((with_reducible refine gD (N := 3) rfl ?_); refine zX (N := 3) (cs := #[.slice A0_0 l0_0.length c0_0, .slice A0_1 l0_1.length c0_1]) (t := 25) ?_; intro gb209 hg w12 hbox hb; replace HO1 := A0_ (Kd.V_below (Kd.V_elderB (by (with_reducible repeat (first | apply Kd.V_alloc | apply Kd.V_drewN | apply Kd.V_drew)); exact HO1.out) gb209 (Nat.le_of_eq hg.symm)) hb); have BK209 := A0_ (hbox); have GW209 := zG hg HB; have GE209 := zG hg HB; replace HB := zB HB hb; clear hb hbox hg; have hcz13_0 := zc0 BK209; have hcz13_1 := zc1 BK209; have hfz13_0 := kF BK209.out 0; have hfz13_1 := kF BK209.out 1) | ((with_reducible refine gC (f := 104) rfl ?_); refine zJ (some 10) Try.func104 #[.agg #[.slice A0_0 l0_0.length c0_0, .slice A0_1 l0_1.length c0_1]] ?_; (with_reducible refine (impl_edgeOf.calls k _ _ l0_0 _ _ l0_1 t210 _ ?side1 ?side2 ?side3 ?side4 A4.out).mono ?_); (case side1 => exact zC HR0_0 HB); (case side2 => exact HC0_0.out); (case side3 => exact zC HR0_1 HB); (case side4 => exact HC0_1.out); rintro e w14 ⟨v211, rfl, ho0, hb⟩; refine ⟨_, rfl, ?_⟩; replace HO1 := A0_ (Kd.V_elder' (by (with_reducible repeat (first | apply Kd.V_alloc | apply Kd.V_drewN | apply Kd.V_drew)); exact HO1.out) (Kd.R_base ho0) hb); have HO212 := A0_ (rL (Kd.R_newM (M := fun k_ => (w.heap.size ≤ k_)) ho0 (bZ (zB_ HB)) (fun k_ h_ => h_)) (bZ (zB_ HB))); replace BK209 := zK BK209 hb; replace HB := zB HB hb; (try clear hb); (try clear ho0); obtain ⟨Ao15, co15, eo15⟩ := rS HO212.out; subst eo15; have p213 : 0 ≤ (a2 : Int) := zd; have q213 : a2 < (t210.length : Int) := zd; obtain ⟨ad213, e213, hx213_0⟩ := tI (rR HO212.out).2.2 a2 p213 q213; cases e213; replace p213 := eq_true p213; replace q213 := eq_true q213; have p214 : 0 ≤ ((rd t210 a2) : Int) := zd; have q214 : (rd t210 a2) < (l1.length : Int) := zd; obtain ⟨ad214, A214_0, c214_0, e214, hx214_0, hl214_0, hi214_0⟩ := at_L1 (Kd.V_reads' HO1.out).2.2 (rd t210 a2) p214 q214; cases e214; obtain ⟨ce214, hce214, hMe214, hcc214⟩ := Kd.V_get HO1.out [] (rd t210 a2) p214 (by first | exact q214 | exact zd | (have e_ := (Kd.V_reads' HO1.out).1; omega)); obtain ⟨ua214_0, uc214_0, rfl, ul214_0, ge214_0⟩ := Kd.FK_slice_open hMe214; have hv214_0 := hcc214 0 _ rfl; rw [Nat.add_zero, show ((Kd.slice 3 (Kd.int .i64))).sz = 1 from rfl, Nat.mul_one] at hv214_0; replace hv214_0 := sI (hv214_0.symm.trans hx214_0); injection hv214_0 with hva_ hvn_ hvc_; rw [hva_] at ge214_0; rw [hvc_] at ul214_0; have HL214_0 := A0_ (show Kd.V (Kd.int .i64) 3 _ w.heap.size _ _ (rd_L1 l1 (rd t210 a2)) from Kd.V_mk ul214_0 ge214_0); clear hva_ hvn_ hvc_ ge214_0 ul214_0 hcc214 hce214; have HR214_0 := A0_ hi214_0; have HC214_0 := A0_ hl214_0; clear hi214_0 hl214_0; replace p214 := eq_true p214; replace q214 := eq_true q214; have hcz16_0 := zc0 BK209; have hcz16_1 := zc1 BK209; have hfz16_0 := kF BK209.out 0; have hfz16_1 := kF BK209.out 1; have p215 : 0 ≤ (a2 : Int) := zd; have q215 : a2 < (l0_1.length : Int) := zd; obtain ⟨ad215, e215, hx215_0⟩ := tI HR0_1.out a2 p215 q215; cases e215; try replace hx215_0 := (HB.out.cell (wL w _ hx215_0)).trans hx215_0; replace p215 := eq_true p215; replace q215 := eq_true q215) | ((with_reducible refine gC (f := 60) rfl ?_); refine zJ (some 24) Try.func60 #[.slice A214_0 (rd_L1 l1 (rd t210 a2)).length c214_0] ?_; (with_reducible refine (impl_back.calls k _ _ (rd_L1 l1 (rd t210 a2)) t216 _ ?side1 ?side2 A11.out).mono ?_); (case side1 => repeat (first | exact (by repeat (first | (with_reducible exact HR214_0.out) | (with_reducible refine cA ?_ _) | (with_reducible refine cN ?_ _) | (with_reducible refine cD ?_) | exact HR214_0.out)) | (with_reducible refine cA ?_ _) | (with_reducible refine cN ?_ _) | (with_reducible refine cD ?_))); (case side2 => exact HC214_0.out); rintro e w17 ⟨v217, rfl, ho0, hb⟩; refine ⟨_, rfl, ?_⟩; replace HO1 := A0_ (Kd.V_elder' (by (with_reducible repeat (first | apply Kd.V_alloc | apply Kd.V_drewN | apply Kd.V_drew)); exact HO1.out) (Kd.R_base ho0) hb); replace HL214_0 := A0_ (Kd.V_elder' (by (with_reducible repeat (first | apply Kd.V_alloc | apply Kd.V_drewN | apply Kd.V_drew)); exact HL214_0.out) (Kd.R_base ho0) hb); have HO218 := A0_ (rL (Kd.R_new' (Kd.R_newM (M := fun k_ => (w.heap.size ≤ k_)) ho0 (bZ (zB_ HB)) (fun k_ h_ => h_)) (rX (zR_ HO212))) (bZ (zB_ HB))); replace HO212 := A0_ (Kd.R_elder' (zR_ HO212) (Kd.R_base ho0) hb); replace BK209 := zK BK209 hb; replace HR214_0 := A0_ (cB (by repeat (first | (with_reducible exact HR214_0.out) | (with_reducible refine cA ?_ _) | (with_reducible refine cN ?_ _) | (with_reducible refine cD ?_) | exact HR214_0.out)) hb); replace HB := zB HB hb; (try clear hb); (try clear ho0)))
       go_ret
       exact ⟨_, by first | rfl | (simp [*] <;> rfl), Kd.V_mono (Kd.R_V (zmR HO218 (fun _ hk => hk.1.1))) (fun k_ hk => by first | exact ⟨(.inr (hk.1)), hk.2⟩ | exact (.inr (hk))), zB_ HB⟩
      rw [if_neg c10] at H
      have c10b0 : decide ((rd l0_1 a2) < a2) = false := dF c10
      clear c10; obtain rfl := sI H
      go_enter Try.func62, Try.ntmps62
      go_wp2_with (first | ((with_reducible refine gD (N := 3) rfl ?_); refine zX (N := 3) (cs := #[.slice A0_0 l0_0.length c0_0, .slice A0_1 l0_1.length c0_1]) (t := 25) ?_; intro gb209 hg w18 hbox hb; replace HO1 := A0_ (Kd.V_below (Kd.V_elderB (by (with_reducible repeat (first | apply Kd.V_alloc | apply Kd.V_drewN | apply Kd.V_drew)); exact HO1.out) gb209 (Nat.le_of_eq hg.symm)) hb); have BK209 := A0_ (hbox); have GW209 := zG hg HB; have GE209 := zG hg HB; replace HB := zB HB hb; clear hb hbox hg; have hcz19_0 := zc0 BK209; have hcz19_1 := zc1 BK209; have hfz19_0 := kF BK209.out 0; have hfz19_1 := kF BK209.out 1) | ((with_reducible refine gC (f := 104) rfl ?_); refine zJ (some 10) Try.func104 #[.agg #[.slice A0_0 l0_0.length c0_0, .slice A0_1 l0_1.length c0_1]] ?_; (with_reducible refine (impl_edgeOf.calls k _ _ l0_0 _ _ l0_1 t210 _ ?side1 ?side2 ?side3 ?side4 A4.out).mono ?_); (case side1 => exact zC HR0_0 HB); (case side2 => exact HC0_0.out); (case side3 => exact zC HR0_1 HB); (case side4 => exact HC0_1.out); rintro e w20 ⟨v211, rfl, ho0, hb⟩; refine ⟨_, rfl, ?_⟩; replace HO1 := A0_ (Kd.V_elder' (by (with_reducible repeat (first | apply Kd.V_alloc | apply Kd.V_drewN | apply Kd.V_drew)); exact HO1.out) (Kd.R_base ho0) hb); have HO212 := A0_ (rL (Kd.R_newM (M := fun k_ => (w.heap.size ≤ k_)) ho0 (bZ (zB_ HB)) (fun k_ h_ => h_)) (bZ (zB_ HB))); replace BK209 := zK BK209 hb; replace HB := zB HB hb; (try clear hb); (try clear ho0); obtain ⟨Ao21, co21, eo21⟩ := rS HO212.out; subst eo21; have p213 : 0 ≤ (a2 : Int) := zd; have q213 : a2 < (t210.length : Int) := zd; obtain ⟨ad213, e213, hx213_0⟩ := tI (rR HO212.out).2.2 a2 p213 q213; cases e213; replace p213 := eq_true p213; replace q213 := eq_true q213; have p214 : 0 ≤ ((rd t210 a2) : Int) := zd; have q214 : (rd t210 a2) < (l1.length : Int) := zd; obtain ⟨ad214, A214_0, c214_0, e214, hx214_0, hl214_0, hi214_0⟩ := at_L1 (Kd.V_reads' HO1.out).2.2 (rd t210 a2) p214 q214; cases e214; obtain ⟨ce214, hce214, hMe214, hcc214⟩ := Kd.V_get HO1.out [] (rd t210 a2) p214 (by first | exact q214 | exact zd | (have e_ := (Kd.V_reads' HO1.out).1; omega)); obtain ⟨ua214_0, uc214_0, rfl, ul214_0, ge214_0⟩ := Kd.FK_slice_open hMe214; have hv214_0 := hcc214 0 _ rfl; rw [Nat.add_zero, show ((Kd.slice 3 (Kd.int .i64))).sz = 1 from rfl, Nat.mul_one] at hv214_0; replace hv214_0 := sI (hv214_0.symm.trans hx214_0); injection hv214_0 with hva_ hvn_ hvc_; rw [hva_] at ge214_0; rw [hvc_] at ul214_0; have HL214_0 := A0_ (show Kd.V (Kd.int .i64) 3 _ w.heap.size _ _ (rd_L1 l1 (rd t210 a2)) from Kd.V_mk ul214_0 ge214_0); clear hva_ hvn_ hvc_ ge214_0 ul214_0 hcc214 hce214; have HR214_0 := A0_ hi214_0; have HC214_0 := A0_ hl214_0; clear hi214_0 hl214_0; replace p214 := eq_true p214; replace q214 := eq_true q214; have hcz22_0 := zc0 BK209; have hcz22_1 := zc1 BK209; have hfz22_0 := kF BK209.out 0; have hfz22_1 := kF BK209.out 1; have p215 : 0 ≤ (a2 : Int) := zd; have q215 : a2 < (l0_1.length : Int) := zd; obtain ⟨ad215, e215, hx215_0⟩ := tI HR0_1.out a2 p215 q215; cases e215; try replace hx215_0 := (HB.out.cell (wL w _ hx215_0)).trans hx215_0; replace p215 := eq_true p215; replace q215 := eq_true q215))
      go_ret
      exact ⟨_, by first | rfl | (simp [*] <;> rfl), by (with_reducible repeat (first | apply Kd.V_alloc | apply Kd.V_drewN | apply Kd.V_drew)); exact Kd.V_mono HL214_0.out (fun _ hk => hk.1.1), zB_ HB⟩
     rw [if_neg c9] at H
     exact absurd H (by simp)
    rw [if_neg c8] at H
    exact absurd H (by simp)
   rw [if_neg c7] at H
   exact absurd H (by simp)
  rw [if_neg c6] at H
  exact absurd H (by simp)
 rw [if_neg c5] at H
 exact absurd H (by simp)

/-! ### impl_mul: function 69 -/
def impl_mul.l0 : Nat → List Int → List Int → List Int → Int → Int → Option (List Int)
  | 0, _, _, _, _, _ => none
  | k + 1, x1, x5, x11, x12, x13 => if x13 < x12 then (if 0 ≤ x13 then (if x13 < (x11.length : Int) then (if 0 ≤ (rd x11 x13) then (if (rd x11 x13) < (x1.length : Int) then (if x13 < (x5.length : Int) then (impl_mul.l0 k x1 (x5.set (x13 : Int).toNat (rd x1 (rd x11 x13))) x11 x12 (wrap64 (x13 + 1))) else (none)) else (none)) else (none)) else (none)) else (none)) else (some x5)
def impl_mul.f (k : Nat) (l0 : List Int) (l1 : List Int) : Option (List Int) := if 0 ≤ (l0.length : Int) then (if ((l0.length : Int) : Int).toNat ≤ 35184372088832 then (impl_mul.l0 k l1 (List.replicate ((l0.length : Int) : Int).toNat 0) l0 (l0.length : Int) 0) else (none)) else (none)
set_option maxHeartbeats 8000000 in
set_option maxRecDepth 100000 in
theorem impl_mul.calls (k : Nat) (A0 : Option Addr) (c0 : Nat) (l0 : List Int) (A1 : Option Addr) (c1 : Nat) (l1 : List Int) (r : List Int) (w : World) (hr0 : Kd.C (Kd.int .i64) w A0 l0.length l0) (hc0 : l0.length ≤ c0) (hr1 : Kd.C (Kd.int .i64) w A1 l1.length l1) (hc1 : l1.length ≤ c1) (h : impl_mul.f k l0 l1 = some r) :
    Calls Try.prog 69 #[.slice A0 l0.length c0, .slice A1 l1.length c1] w fun e w' => ∃ v0_ : Value, e = .returned (v0_) ∧ Kd.R (Kd.int .i64) 3 w' w.heap.size (fun _ => True) v0_ r ∧ Below w.heap.size w w' := by
 have HR0 := A0_ hr0; have HC0 := A0_ hc0; clear hr0 hc0; have HR1 := A0_ hr1; have HC1 := A0_ hc1; clear hr1 hc1
 have HB := A0_ (Below.refl w.heap.size w)
 have H : (if 0 ≤ (l0.length : Int) then (if ((l0.length : Int) : Int).toNat ≤ 35184372088832 then (impl_mul.l0 k l1 (List.replicate ((l0.length : Int) : Int).toNat 0) l0 (l0.length : Int) 0) else (none)) else (none)) = some r := h
 clear h
 by_cases c3 : 0 ≤ (l0.length : Int)
 ·rw [if_pos c3] at H
  have c3b0 := eq_true c3; have c3b1 := dT c3; clear c3
  by_cases c4 : ((l0.length : Int) : Int).toNat ≤ 35184372088832
  ·rw [if_pos c4] at H
   have c4b0 := eq_true c4; have c4b1 := dT c4; clear c4
   obtain ⟨y219, hy219⟩ : ∃ y_ : List Int, y_ = (List.replicate ((l0.length : Int) : Int).toNat 0) := ⟨_, rfl⟩
   replace H : (impl_mul.l0 k l1 y219 l0 (l0.length : Int) 0) = some r := zH hy219 H
   have Ny219 := A0_ hy219; clear hy219; have H' := A0_ H; clear H
   go_enter Try.func69, Try.ntmps69
   go_wp2_with (first | ((with_reducible refine gD (N := 10) rfl ?_); refine Kd.R_make (Kd.int .i64) _ 3 rfl (N := 10) rfl 23 _ _ rfl (l0.length : Int) rfl rfl Try.underlying23 (.int .i64 0) 8 info3 rfl (by decide) (by omega) 0 (ok := fun _ => True) (okp := fun _ => True) rfl (fun _ hk => hk) trivial (zd) (Nat.le_trans (Nat.mul_le_mul_right _ (zd : (l0.length : Int).toNat ≤ 35184372088832)) (by omega)) (Below.refl _ _) (Nat.le_refl _) ?_; intro v220 w5 ho6 hb hg_ hnew_; clear hg_ hnew_; (first | rw [← Ny219.out] at ho6 | (simp only [Int.reduceToNat] at ho6; rw [← Ny219.out] at ho6)); have HO221 := A0_ (rL ho6 (bZ (zB_ HB))); replace HB := zB HB hb; clear hb ho6))
   go_loopg [13] k (fun kq v13 w' => ∃ (x5_1 : List Int) (x13_1 : Int), v13 = .int .i64 x13_1 ∧ Aside0 (impl_mul.l0 kq l1 x5_1 l0 (l0.length : Int) x13_1 = some r) ∧ Aside0 (kq ≤ k) ∧ Aside0 (Kd.R (Kd.int .i64) 3 w' w.heap.size (fun _ => True) v220 x5_1) ∧ Aside0 (Below w.heap.size w w'))
   case atStart => exact ⟨(y219), (0), zt, H', ⟨Nat.le_refl _⟩, ⟨zR_ HO221⟩, ⟨zB_ HB⟩⟩
   case round =>
    clear H'; (try clear c1); (try clear p2); (try clear c3); (try clear c3b0); (try clear c3b1); (try clear c4); (try clear c4b0); (try clear c4b1); (try clear c6); obtain ⟨x5_1, x13_1, rfl, HA, HK1, HO_5, HB⟩ := hrel
    cases gk with
    | zero => exact absurd HA.out (by simp [impl_mul.l0])
    | succ k1 =>
     have H := HA.out; clear HA; simp only [impl_mul.l0] at H
     by_cases c7 : x13_1 < (l0.length : Int)
     ·rw [if_pos c7] at H
      have c7b0 := dT c7; clear c7
      by_cases c8 : 0 ≤ x13_1
      ·rw [if_pos c8] at H
       have c8b0 := dT c8; clear c8
       by_cases c9 : x13_1 < (l0.length : Int)
       ·rw [if_pos c9] at H
        have c9b0 := dT c9; clear c9
        by_cases c10 : 0 ≤ (rd l0 x13_1)
        ·rw [if_pos c10] at H
         have c10b0 := dT c10; clear c10
         by_cases c11 : (rd l0 x13_1) < (l1.length : Int)
         ·rw [if_pos c11] at H
          have c11b0 := dT c11; clear c11
          by_cases c12 : x13_1 < (x5_1.length : Int)
          ·rw [if_pos c12] at H
           have c12b0 := dT c12; clear c12
           obtain ⟨y224, hy224⟩ : ∃ y_ : List Int, y_ = (x5_1.set (x13_1 : Int).toNat (rd l1 (rd l0 x13_1))) := ⟨_, rfl⟩
           replace H : (impl_mul.l0 k1 l1 y224 l0 (l0.length : Int) (wrap64 (x13_1 + 1))) = some r := zH hy224 H
           have Ny224 := A0_ hy224; clear hy224; have H' := A0_ H; clear H
           have p222 : 0 ≤ (x13_1 : Int) := zd
           have q222 : x13_1 < (l0.length : Int) := zd
           obtain ⟨ad222, e222, hx222_0⟩ := tI HR0.out x13_1 p222 q222
           cases e222
           try replace hx222_0 := (HB.out.cell (wL w _ hx222_0)).trans hx222_0
           replace p222 := eq_true p222; replace q222 := eq_true q222
           have p223 : 0 ≤ ((rd l0 x13_1) : Int) := zd
           have q223 : (rd l0 x13_1) < (l1.length : Int) := zd
           obtain ⟨ad223, e223, hx223_0⟩ := tI HR1.out (rd l0 x13_1) p223 q223
           cases e223
           try replace hx223_0 := (HB.out.cell (wL w _ hx223_0)).trans hx223_0
           replace p223 := eq_true p223; replace q223 := eq_true q223
           have p13 : 0 ≤ (x13_1 : Int) := zd
           have q13 : (x13_1 : Int) < ((x5_1.length : Int) : Int) := zd
           obtain ⟨go13, co13, eo13, gb13, gl13, cl13, HG13⟩ := Kd.R_form HO_5.out (by omega)
           (first | cases eo13 | (injection eo13 with ea_ en_ ec_; (first | subst ea_ | (injection ea_ with ea_; subst ea_)); subst ec_; clear en_))
           have GB13 := A0_ gb13; have GG13 := A0_ HG13; clear gb13 gl13 HG13
           obtain ⟨hx13_0, hf13_0⟩ := Kd.R_celln 0 HO_5.out (x13_1 : Int) p13 q13
           replace p13 := eq_true p13; replace q13 := eq_true q13
           have HP14 := Kd.R_putg HO_5.out (x13_1 : Int) (rd l1 (rd l0 x13_1))
           go_wp2_with (first | ((with_reducible refine gS (t := 3) (p := 24) rfl ?_); refine store_event (t := 3) (p := 24) (v := ?vo_w15) (w1 := (wr.setCell ⟨go13, (x13_1 : Int).toNat, none⟩ (.int .i64 (rd l1 (rd l0 x13_1))))) ?hg ?ho ?hn ?hr ?_; (case ho => rfl); (case hg => rfl); (case hn => rfl); (case hr => first | (go_simp; done) | (go_simp; rfl)); intro w15 hw; have hg : wr.grownBy w15 (some go13) := (by rw [hw]; exact HP14.2); have hp_ : Kd.R (Kd.int .i64) 3 w15 w.heap.size (fun _ => True) (.slice (some ⟨go13, 0, none⟩) x5_1.length co13) y224 := (by rw [hw, Ny224.out]; exact HP14.1); clear HP14; replace HO_5 := A0_ (hp_); replace HB := A0_ ((by rw [hw]; exact bS (HB.out) GB13.out : Below w.heap.size w w15)); clear hg hw hp_))
           go_roundg k1
           case measure => have := HK1.out; omega
           case rel => exact ⟨(y224), (wrap64 (x13_1 + 1)), zt, H', ⟨by have := HK1.out; omega⟩, ⟨zR_ HO_5⟩, ⟨zB_ HB⟩⟩
          rw [if_neg c12] at H
          exact absurd H (by simp)
         rw [if_neg c11] at H
         exact absurd H (by simp)
        rw [if_neg c10] at H
        exact absurd H (by simp)
       rw [if_neg c9] at H
       exact absurd H (by simp)
      rw [if_neg c8] at H
      exact absurd H (by simp)
     rw [if_neg c7] at H; have c7b0 := dF c7; clear c7; obtain rfl := sI H
     go_wp2
     go_ret
     exact ⟨_, by first | rfl | (simp [*] <;> rfl), zR_ HO_5, zB_ HB⟩
  rw [if_neg c4] at H
  exact absurd H (by simp)
 rw [if_neg c3] at H
 exact absurd H (by simp)

/-! ### slices_Clone_int_int: function 106 -/
def slices_Clone_int_int.f (l0 : List Int) : Option (List Int) := if l0.length ≤ 1048576 then some l0 else none
set_option maxHeartbeats 8000000 in
set_option maxRecDepth 100000 in
theorem slices_Clone_int_int.calls (A0 : Option Addr) (c0 : Nat) (l0 : List Int) (r : List Int) (w : World) (hr0 : Kd.C (Kd.int .i64) w A0 l0.length l0) (hc0 : l0.length ≤ c0) (h : slices_Clone_int_int.f l0 = some r) :
    Calls Try.prog 106 #[.slice A0 l0.length c0] w fun e w' => ∃ v0_ : Value, e = .returned (v0_) ∧ Kd.R (Kd.int .i64) 3 w' w.heap.size (fun _ => True) v0_ r ∧ Below w.heap.size w w' := by
  unfold slices_Clone_int_int.f at h
  by_cases hl : l0.length ≤ 1048576
  · rw [if_pos hl] at h
    obtain rfl := sI h; clear h; have HR0 := A0_ hr0; have HC0 := A0_ hc0; have HL := A0_ hl; clear hr0 hc0 hl
    have HB := A0_ (Below.refl w.heap.size w)
    have he : ∀ w : World, (Go.binOp .eql 23 (.slice A0 l0.length c0) (.slice none 0 0)).run Try.prog w = .ok (.bool A0.isNone) w := fun w => by cases A0 <;> kernel_rfl
    cases A0 with
    | none =>
      have hz : l0 = [] := by
        rcases Nat.eq_zero_or_pos l0.length with z | z
        · exact List.length_eq_zero_iff.1 z
        obtain ⟨ad, e, _⟩ := HR0.out.2.2 z
        cases e
      have HZ := A0_ hz; clear hz
      go_enter Try.func106, Try.ntmps106
      go_wp2
      go_ret
      exact ⟨_, rfl, by rw [HZ.out]; exact Kd.R_nil _ _ _ _ _, HB.out⟩
    | some ad =>
      obtain ⟨y233, hy⟩ : ∃ y_ : List Int, y_ = ([] : List Int) := ⟨_, rfl⟩
      have Ny233 := A0_ hy; clear hy
      have Ny236 := A0_ (show l0 = y233 ++ l0 by rw [Ny233.out]; rfl)
      have LMc2 := A0_ (show y233.length + l0.length < 17592186044416 by rw [Ny233.out]; have := HL.out; simp; omega)
      go_enter Try.func106, Try.ntmps106
      go_wp2_with (first | ((with_reducible refine gD (N := 5) rfl ?_); refine Kd.R_lit (Kd.int .i64) _ 3 ?hg (N := 5) ?hd (xs := ([] : List Int)) (inner := []) (ok := fun _ => True) (okp := fun _ => True) ?hr ?hp (fun _ hk => hk) trivial (Below.refl _ _) (Nat.le_refl _) (by simp) ?_; (case hd => rfl); (case hg => rfl); (case hr => first | (go_simp; done) | (go_simp; rfl)); (case hp => exact (Reps.none _ _)); intro v234 w3 ho4 hb hg_ hnew_; clear hg_ hnew_; (first | rw [← Ny233.out] at ho4 | (simp only [Int.reduceToNat] at ho4; rw [← Ny233.out] at ho4)); have HO235 := A0_ (rL ho4 (bZ (zB_ HB))); replace HB := zB HB hb; clear hb ho4) | ((with_reducible refine gB (b := .append) (xs := #[.tmp 5, .tmp 6]) rfl ?_); at_builtin; refine Kd.R_append_rows (Kd.int .i64) (w0 := w) w.heap.size rfl (.tmp 5) (.tmp 6) 23 3 (.int .i64 0) 8 rfl Try.underlying23 info3 rfl (by decide) (by omega) v234 y233 l0 _ _ _ (fun _ => True) (fun _ => False) rfl rfl ?aO ?aR (fun _ _ h => h) (fun _ h => h.elim) ?aF ?aB ?aS ?aL ?_; (case aR => exact zC HR0 HB); (case aB => exact (zB_ HB)); (case aF => exact (fun _ _ => trivial)); (case aO => exact (zR_ HO235)); (case aS => exact (bZ (zB_ HB))); (case aL => have := LMc2.out; omega); intro v237 w5 ho hb hg hat; rw [← Ny236.out] at ho; replace HB := A0_ (hb); have HO238 := A0_ (ho); clear HO235 ho hb hg hat))
      go_ret
      exact ⟨_, rfl, zR_ HO238, (zB_ HB)⟩
  rw [if_neg hl] at h; cases h


/-! ### impl_conjAt: function 63 -/
def impl_conjAt.l0 : Nat → List (List Int) → Int → List Int → List Int → List (List Int) → List Int → Int → Int → List Int → List Int → Option ((List (List Int)))
  | 0, _, _, _, _, _, _, _, _, _, _ => none
  | k + 1, x1, x2, x3, x9, x10, x18, x19, x20, x226000, x226001 => if x20 < x19 then (if 0 ≤ x20 then (if x20 < (x18.length : Int) then (if x20 < (x1.length : Int) then ((slices_Clone_int_int.f (rd_L1 x1 x20)).bind fun t237 => (if 0 ≤ (rd x18 x20) then (if (rd x18 x20) < (x9.length : Int) then (if (rd x9 (rd x18 x20)) = x2 then ((impl_back.f k x3).bind fun t241 => ((impl_mul.f k t241 t237).bind fun t244 => (if (rd x18 x20) < (x226001.length : Int) then (if 0 ≤ (rd x226001 (rd x18 x20)) then (if (rd x226001 (rd x18 x20)) < (x9.length : Int) then (if (rd x9 (rd x226001 (rd x18 x20))) = x2 then ((impl_mul.f k t244 x3).bind fun t249 => (if x10.length < 5864062014805 then (impl_conjAt.l0 k x1 x2 x3 x9 (x10 ++ [t249]) x18 x19 (wrap64 (x20 + 1)) x226000 x226001) else (none))) else (if x10.length < 5864062014805 then (impl_conjAt.l0 k x1 x2 x3 x9 (x10 ++ [t244]) x18 x19 (wrap64 (x20 + 1)) x226000 x226001) else (none))) else (none)) else (none)) else (none)))) else (if (rd x18 x20) < (x226001.length : Int) then (if 0 ≤ (rd x226001 (rd x18 x20)) then (if (rd x226001 (rd x18 x20)) < (x9.length : Int) then (if (rd x9 (rd x226001 (rd x18 x20))) = x2 then ((impl_mul.f k t237 x3).bind fun t260 => (if x10.length < 5864062014805 then (impl_conjAt.l0 k x1 x2 x3 x9 (x10 ++ [t260]) x18 x19 (wrap64 (x20 + 1)) x226000 x226001) else (none))) else (if x10.length < 5864062014805 then (impl_conjAt.l0 k x1 x2 x3 x9 (x10 ++ [t237]) x18 x19 (wrap64 (x20 + 1)) x226000 x226001) else (none))) else (none)) else (none)) else (none))) else (none)) else (none))) else (none)) else (none)) else (none)) else (some x10)
def impl_conjAt.f (k : Nat) (l0_0 : List Int) (l0_1 : List Int) (l1 : List (List Int)) (a2 : Int) (l3 : List Int) : Option ((List (List Int))) := (impl_vertexOf.f k l0_0 l0_1).bind fun t226 => ((impl_edgesOf.f k l0_0 l0_1).bind fun t232 => (impl_conjAt.l0 k l1 a2 l3 t226 (([] : List (List Int))) t232 (t232.length : Int) 0 l0_0 l0_1))
set_option maxHeartbeats 8000000 in
set_option maxRecDepth 100000 in
theorem impl_conjAt.calls (k : Nat) (A0_0 : Option Addr) (c0_0 : Nat) (l0_0 : List Int) (A0_1 : Option Addr) (c0_1 : Nat) (l0_1 : List Int) (A1 : Option Addr) (c1 : Nat) (l1 : List (List Int)) (a2 : Int) (A3 : Option Addr) (c3 : Nat) (l3 : List Int) (r : List (List Int)) (w : World) (hr0_0 : Kd.C (Kd.int .i64) w A0_0 l0_0.length l0_0) (hc0_0 : l0_0.length ≤ c0_0) (hr0_1 : Kd.C (Kd.int .i64) w A0_1 l0_1.length l0_1) (hc0_1 : l0_1.length ≤ c0_1) (hr1 : Kd.C (Kd.slice 3 (Kd.int .i64)) w A1 l1.length l1) (hc1 : l1.length ≤ c1) (hr3 : Kd.C (Kd.int .i64) w A3 l3.length l3) (hc3 : l3.length ≤ c3) (h : impl_conjAt.f k l0_0 l0_1 l1 a2 l3 = some r) :
    Calls Try.prog 63 #[.agg #[.slice A0_0 l0_0.length c0_0, .slice A0_1 l0_1.length c0_1], .slice A1 l1.length c1, .int .i64 a2, .slice A3 l3.length c3] w fun e w' => ∃ v0_ : Value, e = .returned (v0_) ∧ Kd.S (Kd.slice 3 (Kd.int .i64)) 23 w' w.heap.size (fun _ => True) v0_ r ∧ Below w.heap.size w w' := by
 have hu25 := Try.underlying25; have HR0_0 := A0_ hr0_0; have HC0_0 := A0_ hc0_0; clear hr0_0 hc0_0; have HR0_1 := A0_ hr0_1; have HC0_1 := A0_ hc0_1; clear hr0_1 hc0_1; have HR1 := A0_ hr1; have HC1 := A0_ hc1; clear hr1 hc1; have HR3 := A0_ hr3; have HC3 := A0_ hc3; clear hr3 hc3
 have HB := A0_ (Below.refl w.heap.size w)
 have H : ((impl_vertexOf.f k l0_0 l0_1).bind fun t226 => ((impl_edgesOf.f k l0_0 l0_1).bind fun t232 => (impl_conjAt.l0 k l1 a2 l3 t226 (([] : List (List Int))) t232 (t232.length : Int) 0 l0_0 l0_1))) = some r := h
 clear h; obtain ⟨t226, A5, H⟩ := zbind H
 obtain ⟨y229, hy229⟩ : ∃ y_ : List (List Int), y_ = (([] : List (List Int))) := ⟨_, rfl⟩
 replace H : ((impl_edgesOf.f k l0_0 l0_1).bind fun t232 => (impl_conjAt.l0 k l1 a2 l3 t226 y229 t232 (t232.length : Int) 0 l0_0 l0_1)) = some r := zH hy229 H
 have Ny229 := A0_ hy229; clear hy229; obtain ⟨t232, A6, H⟩ := zbind H; have H' := A0_ H; clear H
 go_enter Try.func63, Try.ntmps63
 go_wp2_with (first | ((with_reducible refine gD (N := 4) rfl ?_); refine zX (N := 4) (cs := #[.slice A0_0 l0_0.length c0_0, .slice A0_1 l0_1.length c0_1]) (t := 25) ?_; intro gb225 hg w7 hbox hb; have BK225 := A0_ (hbox); have GW225 := zG hg HB; have GE225 := zG hg HB; replace HB := zB HB hb; clear hb hbox hg; have hcz8_0 := zc0 BK225; have hcz8_1 := zc1 BK225; have hfz8_0 := kF BK225.out 0; have hfz8_1 := kF BK225.out 1) | ((with_reducible refine gC (f := 59) rfl ?_); refine zJ (some 15) Try.func59 #[.agg #[.slice A0_0 l0_0.length c0_0, .slice A0_1 l0_1.length c0_1]] ?_; (with_reducible refine (impl_vertexOf.calls k _ _ l0_0 _ _ l0_1 t226 _ ?side1 ?side2 ?side3 ?side4 A5.out).mono ?_); (case side1 => exact zC HR0_0 HB); (case side2 => exact HC0_0.out); (case side3 => exact zC HR0_1 HB); (case side4 => exact HC0_1.out); rintro e w9 ⟨v227, rfl, ho0, hb⟩; refine ⟨_, rfl, ?_⟩; have HO228 := A0_ (rL ho0 (bZ (zB_ HB))); replace BK225 := zK BK225 hb; replace HB := zB HB hb; (try clear hb); (try clear ho0)) | ((with_reducible refine gD (N := 16) rfl ?_); refine Kd.S_lit (Kd.slice 3 (Kd.int .i64)) _ 23 ?hg (N := 16) ?hd (xs := ([] : List (List Int))) (inner := []) (ok := fun _ => True) (okp := fun _ => True) ?hr ?hp (fun _ hk => hk) trivial (Below.refl _ _) (Nat.le_refl _) (by simp) ?_; (case hd => rfl); (case hg => rfl); (case hr => first | (go_simp; done) | (go_simp; rfl)); (case hp => exact (Reps.none _ _)); intro v230 w10 ho11 hb hg_ hnew_; clear hg_ hnew_; (first | rw [← Ny229.out] at ho11 | (simp only [Int.reduceToNat] at ho11; rw [← Ny229.out] at ho11)); have HO231 := A0_ (Kd.S_lower (Kd.S_new' ho11 (rX (zR_ HO228))) (bZ (zB_ HB))); replace HO228 := zR HO228 hb; replace BK225 := zK BK225 hb; replace HB := zB HB hb; clear hb ho11; have hcz12_0 := zc0 BK225; have hcz12_1 := zc1 BK225; have hfz12_0 := kF BK225.out 0; have hfz12_1 := kF BK225.out 1) | ((with_reducible refine gC (f := 105) rfl ?_); refine zJ (some 18) Try.func105 #[.agg #[.slice A0_0 l0_0.length c0_0, .slice A0_1 l0_1.length c0_1]] ?_; (with_reducible refine (impl_edgesOf.calls k _ _ l0_0 _ _ l0_1 t232 _ ?side1 ?side2 ?side3 ?side4 A6.out).mono ?_); (case side1 => exact zC HR0_0 HB); (case side2 => exact HC0_0.out); (case side3 => exact zC HR0_1 HB); (case side4 => exact HC0_1.out); rintro e w13 ⟨v233, rfl, ho0, hb⟩; refine ⟨_, rfl, ?_⟩; replace HO231 := A0_ (Kd.S_elder' (zS_ HO231) (Kd.R_base ho0) hb); have HO234 := A0_ (rL (Kd.R_new' ho0 (rX (zR_ HO228))) (bZ (zB_ HB))); replace HO228 := A0_ (Kd.R_elder' (zR_ HO228) (Kd.R_base ho0) hb); replace BK225 := zK BK225 hb; replace HB := zB HB hb; (try clear hb); (try clear ho0); obtain ⟨Ao14, co14, eo14⟩ := rS HO234.out; subst eo14))
 go_loopg [10, 20] k (fun kq v10 v20 w' => ∃ (x10_1 : List (List Int)) (x20_1 : Int), v20 = .int .i64 x20_1 ∧ Aside0 (impl_conjAt.l0 kq l1 a2 l3 t226 x10_1 t232 (t232.length : Int) x20_1 l0_0 l0_1 = some r) ∧ Aside0 (kq ≤ k) ∧ Aside0 (Kd.R (Kd.int .i64) 3 w' w.heap.size (fun k_ => some k_ ≠ ((.slice Ao14 t232.length co14) : Value).ownBlock) v227 t226) ∧ Aside0 (Kd.S (Kd.slice 3 (Kd.int .i64)) 23 w' w.heap.size (fun k_ => some k_ ≠ (v227 : Value).ownBlock ∧ some k_ ≠ ((.slice Ao14 t232.length co14) : Value).ownBlock) v10 x10_1) ∧ Aside0 (Kd.R (Kd.int .i64) 3 w' w.heap.size (fun k_ => some k_ ≠ (v227 : Value).ownBlock) (.slice Ao14 t232.length co14) t232) ∧ Aside0 (w'.heap[gb225]? = some (.cells #[(.slice A0_0 l0_0.length c0_0), (.slice A0_1 l0_1.length c0_1)] 25 (0, 0))) ∧ Aside0 (Below w.heap.size w w'))
 case atStart => exact ⟨(y229), (0), zt, H', ⟨Nat.le_refl _⟩, ⟨zmR HO228 (fun _ hk => hk.2)⟩, ⟨zmS HO231 (fun _ hk => ⟨hk.1.2, hk.2⟩)⟩, ⟨zmR HO234 (fun _ hk => hk.2)⟩, ⟨zK_ BK225⟩, ⟨zB_ HB⟩⟩
 case round =>
  clear H'; (try clear c1); (try clear p2); (try clear c3); (try clear c5); (try clear c6); (try clear c10); (try clear hcz12_0); (try clear hcz12_1); (try clear hcz8_0); (try clear hcz8_1); (try clear hfz12_0); (try clear hfz12_1); (try clear hfz8_0); (try clear hfz8_1); obtain ⟨x10_1, x20_1, rfl, HA, HK1, HO_9, HO_10, HO_18, BK225, HB⟩ := hrel
  cases gk with
  | zero => exact absurd HA.out (by simp [impl_conjAt.l0])
  | succ k1 =>
   have H := HA.out; clear HA; simp only [impl_conjAt.l0] at H
   by_cases c15 : x20_1 < (t232.length : Int)
   ·rw [if_pos c15] at H
    have c15b0 := dT c15; clear c15
    by_cases c16 : 0 ≤ x20_1
    ·rw [if_pos c16] at H
     have c16b0 := dT c16; clear c16
     by_cases c17 : x20_1 < (t232.length : Int)
     ·rw [if_pos c17] at H
      have c17b0 := dT c17; clear c17
      by_cases c18 : x20_1 < (l1.length : Int)
      ·rw [if_pos c18] at H
       have c18b0 := dT c18; clear c18; obtain ⟨t237, A19, H⟩ := zbind H
       by_cases c20 : 0 ≤ (rd t232 x20_1)
       ·rw [if_pos c20] at H
        have c20b0 := dT c20; clear c20
        by_cases c21 : (rd t232 x20_1) < (t226.length : Int)
        ·rw [if_pos c21] at H
         have c21b0 := dT c21; clear c21
         by_cases c22 : (rd t226 (rd t232 x20_1)) = a2
         ·rw [if_pos c22] at H
          have c22b0 : ((rd t226 (rd t232 x20_1)) == a2) = true := beq_iff_eq.mpr c22
          have c22b1 : ((rd t226 (rd t232 x20_1)) != a2) = false := bne_eq_false_iff_eq.mpr c22
          clear c22; obtain ⟨t241, A23, H⟩ := zbind H; obtain ⟨t244, A24, H⟩ := zbind H
          by_cases c25 : (rd t232 x20_1) < (l0_1.length : Int)
          ·rw [if_pos c25] at H
           have c25b0 := dT c25; clear c25
           by_cases c26 : 0 ≤ (rd l0_1 (rd t232 x20_1))
           ·rw [if_pos c26] at H
            have c26b0 := dT c26; clear c26
            by_cases c27 : (rd l0_1 (rd t232 x20_1)) < (t226.length : Int)
            ·rw [if_pos c27] at H
             have c27b0 := dT c27; clear c27
             by_cases c28 : (rd t226 (rd l0_1 (rd t232 x20_1))) = a2
             ·rw [if_pos c28] at H
              have c28b0 : ((rd t226 (rd l0_1 (rd t232 x20_1))) == a2) = true := beq_iff_eq.mpr c28
              have c28b1 : ((rd t226 (rd l0_1 (rd t232 x20_1))) != a2) = false := bne_eq_false_iff_eq.mpr c28
              clear c28; obtain ⟨t249, A29, H⟩ := zbind H
              by_cases c30 : x10_1.length < 5864062014805
              ·rw [if_pos c30] at H
               have LMc30 := A0_ c30; clear c30
               obtain ⟨y252, hy252⟩ : ∃ y_ : List (List Int), y_ = (x10_1 ++ [t249]) := ⟨_, rfl⟩
               replace H : (impl_conjAt.l0 k1 l1 a2 l3 t226 y252 t232 (t232.length : Int) (wrap64 (x20_1 + 1)) l0_0 l0_1) = some r := zH hy252 H
               have Ny252 := A0_ hy252; clear hy252; have H' := A0_ H; clear H
               have p235 : 0 ≤ (x20_1 : Int) := zd
               have q235 : x20_1 < (t232.length : Int) := zd
               obtain ⟨ad235, e235, hx235_0⟩ := tI (rR HO_18.out).2.2 x20_1 p235 q235
               cases e235
               replace p235 := eq_true p235; replace q235 := eq_true q235
               have p236 : 0 ≤ (x20_1 : Int) := zd
               have q236 : x20_1 < (l1.length : Int) := zd
               obtain ⟨ad236, A236_0, c236_0, e236, hx236_0, hl236_0, hi236_0⟩ := at_L1 HR1.out x20_1 p236 q236
               cases e236
               try replace hx236_0 := (HB.out.cell (wL w _ hx236_0)).trans hx236_0
               have HR236_0 := A0_ hi236_0; have HC236_0 := A0_ hl236_0; clear hi236_0 hl236_0; replace p236 := eq_true p236; replace q236 := eq_true q236
               go_wp2_with (first | ((with_reducible refine gC (f := 106) rfl ?_); refine zJ (some 29) Try.func106 #[.slice A236_0 (rd_L1 l1 x20_1).length c236_0] ?_; (with_reducible refine (slices_Clone_int_int.calls _ _ (rd_L1 l1 x20_1) t237 _ ?side1 ?side2 A19.out).mono ?_); (case side1 => exact zC HR236_0 HB); (case side2 => exact HC236_0.out); rintro e w31 ⟨v238, rfl, ho0, hb⟩; refine ⟨_, rfl, ?_⟩; replace HO_10 := A0_ (Kd.S_elder' (zS_ HO_10) (Kd.R_base ho0) hb); have HO239 := A0_ (rL (Kd.R_new' (Kd.R_new' ho0 (rX (zR_ HO_9))) (rX (zR_ HO_18))) (bZ (zB_ HB))); replace HO_9 := A0_ (Kd.R_elder' (zR_ HO_9) (Kd.R_base ho0) hb); replace HO_18 := A0_ (Kd.R_elder' (zR_ HO_18) (Kd.R_base ho0) hb); replace BK225 := zK BK225 hb; replace HB := zB HB hb; (try clear hb); (try clear ho0); obtain ⟨Ao32, co32, eo32⟩ := rS HO_9.out; subst eo32; have p240 : 0 ≤ ((rd t232 x20_1) : Int) := zd; have q240 : (rd t232 x20_1) < (t226.length : Int) := zd; obtain ⟨ad240, e240, hx240_0⟩ := tI (rR HO_9.out).2.2 (rd t232 x20_1) p240 q240; cases e240; replace p240 := eq_true p240; replace q240 := eq_true q240) | ((with_reducible refine gC (f := 60) rfl ?_); refine zJ (some 37) Try.func60 #[.slice A3 l3.length c3] ?_; (with_reducible refine (impl_back.calls k1 _ _ l3 t241 _ ?side1 ?side2 A23.out).mono ?_); (case side1 => exact zC HR3 HB); (case side2 => exact HC3.out); rintro e w33 ⟨v242, rfl, ho0, hb⟩; refine ⟨_, rfl, ?_⟩; replace HO_10 := A0_ (Kd.S_elder' (zS_ HO_10) (Kd.R_base ho0) hb); have HO243 := A0_ (rL (Kd.R_new' (Kd.R_new' (Kd.R_new' ho0 (rX (zR_ HO_9))) (rX (zR_ HO_18))) (rX (zR_ HO239))) (bZ (zB_ HB))); replace HO_9 := A0_ (Kd.R_elder' (zR_ HO_9) (Kd.R_base ho0) hb); replace HO_18 := A0_ (Kd.R_elder' (zR_ HO_18) (Kd.R_base ho0) hb); replace HO239 := A0_ (Kd.R_elder' (zR_ HO239) (Kd.R_base ho0) hb); replace BK225 := zK BK225 hb; replace HB := zB HB hb; (try clear hb); (try clear ho0); obtain ⟨Ao34, co34, eo34⟩ := rS HO243.out; subst eo34; obtain ⟨Ao35, co35, eo35⟩ := rS HO239.out; subst eo35) | ((with_reducible refine gC (f := 69) rfl ?_); refine zJ (some 39) Try.func69 #[.slice Ao34 t241.length co34, .slice Ao35 t237.length co35] ?_; (with_reducible refine (impl_mul.calls k1 _ _ t241 _ _ t237 t244 _ ?side1 ?side2 ?side3 ?side4 A24.out).mono ?_); (case side1 => exact zD HO243); (case side2 => exact (rR HO243.out).2.1); (case side3 => exact zD HO239); (case side4 => exact (rR HO239.out).2.1); rintro e w36 ⟨v245, rfl, ho0, hb⟩; refine ⟨_, rfl, ?_⟩; replace HO_10 := A0_ (Kd.S_elder' (zS_ HO_10) (Kd.R_base ho0) hb); have HO246 := A0_ (rL (Kd.R_new' (Kd.R_new' (Kd.R_new' (Kd.R_new' ho0 (rX (zR_ HO_9))) (rX (zR_ HO_18))) (rX (zR_ HO239))) (rX (zR_ HO243))) (bZ (zB_ HB))); replace HO_9 := A0_ (Kd.R_elder' (zR_ HO_9) (Kd.R_base ho0) hb); replace HO_18 := A0_ (Kd.R_elder' (zR_ HO_18) (Kd.R_base ho0) hb); replace HO239 := A0_ (Kd.R_elder' (zR_ HO239) (Kd.R_base ho0) hb); replace HO243 := A0_ (Kd.R_elder' (zR_ HO243) (Kd.R_base ho0) hb); replace BK225 := zK BK225 hb; replace HB := zB HB hb; (try clear hb); (try clear ho0); have hcz37_0 := zc0 BK225; have hcz37_1 := zc1 BK225; have hfz37_0 := kF BK225.out 0; have hfz37_1 := kF BK225.out 1; have p247 : 0 ≤ ((rd t232 x20_1) : Int) := zd; have q247 : (rd t232 x20_1) < (l0_1.length : Int) := zd; obtain ⟨ad247, e247, hx247_0⟩ := tI HR0_1.out (rd t232 x20_1) p247 q247; cases e247; try replace hx247_0 := (HB.out.cell (wL w _ hx247_0)).trans hx247_0; replace p247 := eq_true p247; replace q247 := eq_true q247; have p248 : 0 ≤ ((rd l0_1 (rd t232 x20_1)) : Int) := zd; have q248 : (rd l0_1 (rd t232 x20_1)) < (t226.length : Int) := zd; obtain ⟨ad248, e248, hx248_0⟩ := tI (rR HO_9.out).2.2 (rd l0_1 (rd t232 x20_1)) p248 q248; obtain rfl : ad240 = ad248 := (by injection e248); replace p248 := eq_true p248; replace q248 := eq_true q248; obtain ⟨Ao38, co38, eo38⟩ := rS HO246.out; subst eo38) | ((with_reducible refine gC (f := 69) rfl ?_); refine zJ (some 52) Try.func69 #[.slice Ao38 t244.length co38, .slice A3 l3.length c3] ?_; (with_reducible refine (impl_mul.calls k1 _ _ t244 _ _ l3 t249 _ ?side1 ?side2 ?side3 ?side4 A29.out).mono ?_); (case side1 => exact zD HO246); (case side2 => exact (rR HO246.out).2.1); (case side3 => exact zC HR3 HB); (case side4 => exact HC3.out); rintro e w39 ⟨v250, rfl, ho0, hb⟩; refine ⟨_, rfl, ?_⟩; replace HO_10 := A0_ (Kd.S_elder' (zS_ HO_10) (Kd.R_base ho0) hb); have HO251 := A0_ (rL (Kd.R_new' (Kd.R_new' (Kd.R_new' (Kd.R_new' (Kd.R_new' ho0 (rX (zR_ HO_9))) (rX (zR_ HO_18))) (rX (zR_ HO239))) (rX (zR_ HO243))) (rX (zR_ HO246))) (bZ (zB_ HB))); replace HO_9 := A0_ (Kd.R_elder' (zR_ HO_9) (Kd.R_base ho0) hb); replace HO_18 := A0_ (Kd.R_elder' (zR_ HO_18) (Kd.R_base ho0) hb); replace HO239 := A0_ (Kd.R_elder' (zR_ HO239) (Kd.R_base ho0) hb); replace HO243 := A0_ (Kd.R_elder' (zR_ HO243) (Kd.R_base ho0) hb); replace HO246 := A0_ (Kd.R_elder' (zR_ HO246) (Kd.R_base ho0) hb); replace BK225 := zK BK225 hb; replace HB := zB HB hb; (try clear hb); (try clear ho0); obtain ⟨Ao41, co41, eo41⟩ := rS HO251.out; subst eo41) | ((with_reducible refine gB (b := .append) (xs := #[.tmp 53, .tmp 55]) rfl ?_); at_builtin; refine Kd.S_append (Kd.slice 3 (Kd.int .i64)) (w0 := w) w.heap.size rfl (.tmp 53) (.tmp 55) 26 23 (.slice none 0 0) 24 rfl Try.underlying26 info23 rfl (by decide) (by omega) u10 x10_1 t249 [.slice Ao41 t249.length co41] (fun k_ => some k_ ≠ (.slice (some ad240) t226.length co32 : Value).ownBlock ∧ some k_ ≠ (.slice (some ad235) t232.length co14 : Value).ownBlock ∧ some k_ ≠ (.slice Ao35 t237.length co35 : Value).ownBlock ∧ some k_ ≠ (.slice Ao34 t241.length co34 : Value).ownBlock ∧ some k_ ≠ (.slice Ao38 t244.length co38 : Value).ownBlock) (fun k_ => some k_ = (.slice Ao41 t249.length co41 : Value).ownBlock) rfl rfl ?aP (fun k_ hk_ => ((rM (ok' := fun k_ => ((fun k_ => some k_ ≠ (.slice (some ad240) t226.length co32 : Value).ownBlock ∧ some k_ ≠ (.slice (some ad235) t232.length co14 : Value).ownBlock ∧ some k_ ≠ (.slice Ao35 t237.length co35 : Value).ownBlock ∧ some k_ ≠ (.slice Ao34 t241.length co34 : Value).ownBlock ∧ some k_ ≠ (.slice Ao38 t244.length co38 : Value).ownBlock)) k_ ∧ some k_ ≠ (u10 : Value).ownBlock) (Kd.R_apart' (HO251.out) (Kd.S_typed HO_10.out) (by decide)) (fun k_ hk => ⟨⟨hk.1.1.1.1.1.2, ⟨hk.1.1.1.1.2, ⟨hk.1.1.1.2, ⟨hk.1.1.2, hk.1.2⟩⟩⟩⟩, hk.2⟩))).1 k_ hk_.symm) ?aF ?aO ?aB ?aS ?aL ?_; (case aP => exact Kd.M_row (rM (Kd.R_tight rfl (rM (ok' := fun k_ => ((fun k_ => some k_ ≠ (.slice (some ad240) t226.length co32 : Value).ownBlock ∧ some k_ ≠ (.slice (some ad235) t232.length co14 : Value).ownBlock ∧ some k_ ≠ (.slice Ao35 t237.length co35 : Value).ownBlock ∧ some k_ ≠ (.slice Ao34 t241.length co34 : Value).ownBlock ∧ some k_ ≠ (.slice Ao38 t244.length co38 : Value).ownBlock)) k_ ∧ some k_ ≠ (u10 : Value).ownBlock) (Kd.R_apart' (HO251.out) (Kd.S_typed HO_10.out) (by decide)) (fun k_ hk => ⟨⟨hk.1.1.1.1.1.2, ⟨hk.1.1.1.1.2, ⟨hk.1.1.1.2, ⟨hk.1.1.2, hk.1.2⟩⟩⟩⟩, hk.2⟩))) (fun _ h_ => h_))); (case aB => exact (zB_ HB)); (case aF => exact (fun k_ hk => ⟨Kd.fresh' (rX (zR_ HO_9)) k_ hk, Kd.fresh' (rX (zR_ HO_18)) k_ hk, Kd.fresh' (rX (zR_ HO239)) k_ hk, Kd.fresh' (rX (zR_ HO243)) k_ hk, Kd.fresh' (rX (zR_ HO246)) k_ hk⟩)); (case aO => exact (zmS HO_10 (fun k_ hk => ⟨⟨hk.1.1.1.1.1, ⟨hk.1.1.1.1.2, ⟨hk.1.1.1.2, ⟨hk.1.1.2, hk.1.2⟩⟩⟩⟩, fun e_ => hk.2 e_⟩))); (case aS => exact (bZ (zB_ HB))); (case aL => have := LMc30.out; omega); intro v253 w40 ho hb hg hat; rw [← Ny252.out] at ho; replace HO_9 := A0_ (Kd.R_over' (zR_ HO_9) (Kd.S_typed (zS_ HO_10)) (by decide) hg); replace HO_18 := A0_ (Kd.R_over' (zR_ HO_18) (Kd.S_typed (zS_ HO_10)) (by decide) hg); replace BK225 := A0_ (blk_grown (g := gb225) (o := .cells #[.slice A0_0 l0_0.length c0_0, .slice (some ad247) l0_1.length c0_1] 25 (0, 0)) (zK_ BK225) hg (Kd.S_ne HO_10.out BK225.out (by decide))); replace HO239 := A0_ (Kd.R_over' (zR_ HO239) (Kd.S_typed (zS_ HO_10)) (by decide) hg); replace HO243 := A0_ (Kd.R_over' (zR_ HO243) (Kd.S_typed (zS_ HO_10)) (by decide) hg); replace HO246 := A0_ (Kd.R_over' (zR_ HO246) (Kd.S_typed (zS_ HO_10)) (by decide) hg); replace HB := A0_ (hb); have HO254 := A0_ (ho); clear HO_10 HO251 ho hb hg hat))
               go_roundg k1
               case measure => have := HK1.out; omega
               case rel => exact ⟨(y252), (wrap64 (x20_1 + 1)), zt, H', ⟨by have := HK1.out; omega⟩, ⟨zmR HO_9 (fun _ hk => hk.1.1.1.1)⟩, ⟨zmS HO254 (fun _ hk => ⟨hk.1, hk.2.1⟩)⟩, ⟨zmR HO_18 (fun _ hk => hk.1.1.1.1)⟩, ⟨zK_ BK225⟩, ⟨zB_ HB⟩⟩
              rw [if_neg c30] at H
              exact absurd H (by simp)
             rw [if_neg c28] at H
             have c28b0 : ((rd t226 (rd l0_1 (rd t232 x20_1))) == a2) = false := beq_eq_false_iff_ne.mpr c28
             have c28b1 : ((rd t226 (rd l0_1 (rd t232 x20_1))) != a2) = true := bne_iff_ne.mpr c28
             by_cases c42 : x10_1.length < 5864062014805
             ·rw [if_pos c42] at H
              have LMc42 := A0_ c42; clear c42
              obtain ⟨y255, hy255⟩ : ∃ y_ : List (List Int), y_ = (x10_1 ++ [t244]) := ⟨_, rfl⟩
              replace H : (impl_conjAt.l0 k1 l1 a2 l3 t226 y255 t232 (t232.length : Int) (wrap64 (x20_1 + 1)) l0_0 l0_1) = some r := zH hy255 H
              have Ny255 := A0_ hy255; clear hy255; have H' := A0_ H; clear H
              have p235 : 0 ≤ (x20_1 : Int) := zd
              have q235 : x20_1 < (t232.length : Int) := zd
              obtain ⟨ad235, e235, hx235_0⟩ := tI (rR HO_18.out).2.2 x20_1 p235 q235
              cases e235
              replace p235 := eq_true p235; replace q235 := eq_true q235
              have p236 : 0 ≤ (x20_1 : Int) := zd
              have q236 : x20_1 < (l1.length : Int) := zd
              obtain ⟨ad236, A236_0, c236_0, e236, hx236_0, hl236_0, hi236_0⟩ := at_L1 HR1.out x20_1 p236 q236
              cases e236
              try replace hx236_0 := (HB.out.cell (wL w _ hx236_0)).trans hx236_0
              have HR236_0 := A0_ hi236_0; have HC236_0 := A0_ hl236_0; clear hi236_0 hl236_0; replace p236 := eq_true p236; replace q236 := eq_true q236
              go_wp2_with (first | ((with_reducible refine gC (f := 106) rfl ?_); refine zJ (some 29) Try.func106 #[.slice A236_0 (rd_L1 l1 x20_1).length c236_0] ?_; (with_reducible refine (slices_Clone_int_int.calls _ _ (rd_L1 l1 x20_1) t237 _ ?side1 ?side2 A19.out).mono ?_); (case side1 => exact zC HR236_0 HB); (case side2 => exact HC236_0.out); rintro e w43 ⟨v238, rfl, ho0, hb⟩; refine ⟨_, rfl, ?_⟩; replace HO_10 := A0_ (Kd.S_elder' (zS_ HO_10) (Kd.R_base ho0) hb); have HO239 := A0_ (rL (Kd.R_new' (Kd.R_new' ho0 (rX (zR_ HO_9))) (rX (zR_ HO_18))) (bZ (zB_ HB))); replace HO_9 := A0_ (Kd.R_elder' (zR_ HO_9) (Kd.R_base ho0) hb); replace HO_18 := A0_ (Kd.R_elder' (zR_ HO_18) (Kd.R_base ho0) hb); replace BK225 := zK BK225 hb; replace HB := zB HB hb; (try clear hb); (try clear ho0); obtain ⟨Ao44, co44, eo44⟩ := rS HO_9.out; subst eo44; have p240 : 0 ≤ ((rd t232 x20_1) : Int) := zd; have q240 : (rd t232 x20_1) < (t226.length : Int) := zd; obtain ⟨ad240, e240, hx240_0⟩ := tI (rR HO_9.out).2.2 (rd t232 x20_1) p240 q240; cases e240; replace p240 := eq_true p240; replace q240 := eq_true q240) | ((with_reducible refine gC (f := 60) rfl ?_); refine zJ (some 37) Try.func60 #[.slice A3 l3.length c3] ?_; (with_reducible refine (impl_back.calls k1 _ _ l3 t241 _ ?side1 ?side2 A23.out).mono ?_); (case side1 => exact zC HR3 HB); (case side2 => exact HC3.out); rintro e w45 ⟨v242, rfl, ho0, hb⟩; refine ⟨_, rfl, ?_⟩; replace HO_10 := A0_ (Kd.S_elder' (zS_ HO_10) (Kd.R_base ho0) hb); have HO243 := A0_ (rL (Kd.R_new' (Kd.R_new' (Kd.R_new' ho0 (rX (zR_ HO_9))) (rX (zR_ HO_18))) (rX (zR_ HO239))) (bZ (zB_ HB))); replace HO_9 := A0_ (Kd.R_elder' (zR_ HO_9) (Kd.R_base ho0) hb); replace HO_18 := A0_ (Kd.R_elder' (zR_ HO_18) (Kd.R_base ho0) hb); replace HO239 := A0_ (Kd.R_elder' (zR_ HO239) (Kd.R_base ho0) hb); replace BK225 := zK BK225 hb; replace HB := zB HB hb; (try clear hb); (try clear ho0); obtain ⟨Ao46, co46, eo46⟩ := rS HO243.out; subst eo46; obtain ⟨Ao47, co47, eo47⟩ := rS HO239.out; subst eo47) | ((with_reducible refine gC (f := 69) rfl ?_); refine zJ (some 39) Try.func69 #[.slice Ao46 t241.length co46, .slice Ao47 t237.length co47] ?_; (with_reducible refine (impl_mul.calls k1 _ _ t241 _ _ t237 t244 _ ?side1 ?side2 ?side3 ?side4 A24.out).mono ?_); (case side1 => exact zD HO243); (case side2 => exact (rR HO243.out).2.1); (case side3 => exact zD HO239); (case side4 => exact (rR HO239.out).2.1); rintro e w48 ⟨v245, rfl, ho0, hb⟩; refine ⟨_, rfl, ?_⟩; replace HO_10 := A0_ (Kd.S_elder' (zS_ HO_10) (Kd.R_base ho0) hb); have HO246 := A0_ (rL (Kd.R_new' (Kd.R_new' (Kd.R_new' (Kd.R_new' ho0 (rX (zR_ HO_9))) (rX (zR_ HO_18))) (rX (zR_ HO239))) (rX (zR_ HO243))) (bZ (zB_ HB))); replace HO_9 := A0_ (Kd.R_elder' (zR_ HO_9) (Kd.R_base ho0) hb); replace HO_18 := A0_ (Kd.R_elder' (zR_ HO_18) (Kd.R_base ho0) hb); replace HO239 := A0_ (Kd.R_elder' (zR_ HO239) (Kd.R_base ho0) hb); replace HO243 := A0_ (Kd.R_elder' (zR_ HO243) (Kd.R_base ho0) hb); replace BK225 := zK BK225 hb; replace HB := zB HB hb; (try clear hb); (try clear ho0); have hcz49_0 := zc0 BK225; have hcz49_1 := zc1 BK225; have hfz49_0 := kF BK225.out 0; have hfz49_1 := kF BK225.out 1; have p247 : 0 ≤ ((rd t232 x20_1) : Int) := zd; have q247 : (rd t232 x20_1) < (l0_1.length : Int) := zd; obtain ⟨ad247, e247, hx247_0⟩ := tI HR0_1.out (rd t232 x20_1) p247 q247; cases e247; try replace hx247_0 := (HB.out.cell (wL w _ hx247_0)).trans hx247_0; replace p247 := eq_true p247; replace q247 := eq_true q247; have p248 : 0 ≤ ((rd l0_1 (rd t232 x20_1)) : Int) := zd; have q248 : (rd l0_1 (rd t232 x20_1)) < (t226.length : Int) := zd; obtain ⟨ad248, e248, hx248_0⟩ := tI (rR HO_9.out).2.2 (rd l0_1 (rd t232 x20_1)) p248 q248; obtain rfl : ad240 = ad248 := (by injection e248); replace p248 := eq_true p248; replace q248 := eq_true q248; obtain ⟨Ao51, co51, eo51⟩ := rS HO246.out; subst eo51) | ((with_reducible refine gB (b := .append) (xs := #[.tmp 53, .tmp 55]) rfl ?_); at_builtin; refine Kd.S_append (Kd.slice 3 (Kd.int .i64)) (w0 := w) w.heap.size rfl (.tmp 53) (.tmp 55) 26 23 (.slice none 0 0) 24 rfl Try.underlying26 info23 rfl (by decide) (by omega) u10 x10_1 t244 [.slice Ao51 t244.length co51] (fun k_ => some k_ ≠ (.slice (some ad240) t226.length co44 : Value).ownBlock ∧ some k_ ≠ (.slice (some ad235) t232.length co14 : Value).ownBlock ∧ some k_ ≠ (.slice Ao47 t237.length co47 : Value).ownBlock ∧ some k_ ≠ (.slice Ao46 t241.length co46 : Value).ownBlock) (fun k_ => some k_ = (.slice Ao51 t244.length co51 : Value).ownBlock) rfl rfl ?aP (fun k_ hk_ => ((rM (ok' := fun k_ => ((fun k_ => some k_ ≠ (.slice (some ad240) t226.length co44 : Value).ownBlock ∧ some k_ ≠ (.slice (some ad235) t232.length co14 : Value).ownBlock ∧ some k_ ≠ (.slice Ao47 t237.length co47 : Value).ownBlock ∧ some k_ ≠ (.slice Ao46 t241.length co46 : Value).ownBlock)) k_ ∧ some k_ ≠ (u10 : Value).ownBlock) (Kd.R_apart' (HO246.out) (Kd.S_typed HO_10.out) (by decide)) (fun k_ hk => ⟨⟨hk.1.1.1.1.2, ⟨hk.1.1.1.2, ⟨hk.1.1.2, hk.1.2⟩⟩⟩, hk.2⟩))).1 k_ hk_.symm) ?aF ?aO ?aB ?aS ?aL ?_; (case aP => exact Kd.M_row (rM (Kd.R_tight rfl (rM (ok' := fun k_ => ((fun k_ => some k_ ≠ (.slice (some ad240) t226.length co44 : Value).ownBlock ∧ some k_ ≠ (.slice (some ad235) t232.length co14 : Value).ownBlock ∧ some k_ ≠ (.slice Ao47 t237.length co47 : Value).ownBlock ∧ some k_ ≠ (.slice Ao46 t241.length co46 : Value).ownBlock)) k_ ∧ some k_ ≠ (u10 : Value).ownBlock) (Kd.R_apart' (HO246.out) (Kd.S_typed HO_10.out) (by decide)) (fun k_ hk => ⟨⟨hk.1.1.1.1.2, ⟨hk.1.1.1.2, ⟨hk.1.1.2, hk.1.2⟩⟩⟩, hk.2⟩))) (fun _ h_ => h_))); (case aB => exact (zB_ HB)); (case aF => exact (fun k_ hk => ⟨Kd.fresh' (rX (zR_ HO_9)) k_ hk, Kd.fresh' (rX (zR_ HO_18)) k_ hk, Kd.fresh' (rX (zR_ HO239)) k_ hk, Kd.fresh' (rX (zR_ HO243)) k_ hk⟩)); (case aO => exact (zmS HO_10 (fun k_ hk => ⟨⟨hk.1.1.1.1, ⟨hk.1.1.1.2, ⟨hk.1.1.2, hk.1.2⟩⟩⟩, fun e_ => hk.2 e_⟩))); (case aS => exact (bZ (zB_ HB))); (case aL => have := LMc42.out; omega); intro v256 w50 ho hb hg hat; rw [← Ny255.out] at ho; replace HO_9 := A0_ (Kd.R_over' (zR_ HO_9) (Kd.S_typed (zS_ HO_10)) (by decide) hg); replace HO_18 := A0_ (Kd.R_over' (zR_ HO_18) (Kd.S_typed (zS_ HO_10)) (by decide) hg); replace BK225 := A0_ (blk_grown (g := gb225) (o := .cells #[.slice A0_0 l0_0.length c0_0, .slice (some ad247) l0_1.length c0_1] 25 (0, 0)) (zK_ BK225) hg (Kd.S_ne HO_10.out BK225.out (by decide))); replace HO239 := A0_ (Kd.R_over' (zR_ HO239) (Kd.S_typed (zS_ HO_10)) (by decide) hg); replace HO243 := A0_ (Kd.R_over' (zR_ HO243) (Kd.S_typed (zS_ HO_10)) (by decide) hg); replace HB := A0_ (hb); have HO257 := A0_ (ho); clear HO_10 HO246 ho hb hg hat))
              go_roundg k1
              case measure => have := HK1.out; omega
              case rel => exact ⟨(y255), (wrap64 (x20_1 + 1)), zt, H', ⟨by have := HK1.out; omega⟩, ⟨zmR HO_9 (fun _ hk => hk.1.1.1)⟩, ⟨zmS HO257 (fun _ hk => ⟨hk.1, hk.2.1⟩)⟩, ⟨zmR HO_18 (fun _ hk => hk.1.1.1)⟩, ⟨zK_ BK225⟩, ⟨zB_ HB⟩⟩
             rw [if_neg c42] at H
             exact absurd H (by simp)
            rw [if_neg c27] at H
            exact absurd H (by simp)
           rw [if_neg c26] at H
           exact absurd H (by simp)
          rw [if_neg c25] at H
          exact absurd H (by simp)
         rw [if_neg c22] at H
         have c22b0 : ((rd t226 (rd t232 x20_1)) == a2) = false := beq_eq_false_iff_ne.mpr c22
         have c22b1 : ((rd t226 (rd t232 x20_1)) != a2) = true := bne_iff_ne.mpr c22
         by_cases c52 : (rd t232 x20_1) < (l0_1.length : Int)
         ·rw [if_pos c52] at H
          have c52b0 := dT c52; clear c52
          by_cases c53 : 0 ≤ (rd l0_1 (rd t232 x20_1))
          ·rw [if_pos c53] at H
           have c53b0 := dT c53; clear c53
           by_cases c54 : (rd l0_1 (rd t232 x20_1)) < (t226.length : Int)
           ·rw [if_pos c54] at H
            have c54b0 := dT c54; clear c54
            by_cases c55 : (rd t226 (rd l0_1 (rd t232 x20_1))) = a2
            ·rw [if_pos c55] at H
             have c55b0 : ((rd t226 (rd l0_1 (rd t232 x20_1))) == a2) = true := beq_iff_eq.mpr c55
             have c55b1 : ((rd t226 (rd l0_1 (rd t232 x20_1))) != a2) = false := bne_eq_false_iff_eq.mpr c55
             clear c55; obtain ⟨t260, A56, H⟩ := zbind H
             by_cases c57 : x10_1.length < 5864062014805
             ·rw [if_pos c57] at H
              have LMc57 := A0_ c57; clear c57
              obtain ⟨y263, hy263⟩ : ∃ y_ : List (List Int), y_ = (x10_1 ++ [t260]) := ⟨_, rfl⟩
              replace H : (impl_conjAt.l0 k1 l1 a2 l3 t226 y263 t232 (t232.length : Int) (wrap64 (x20_1 + 1)) l0_0 l0_1) = some r := zH hy263 H
              have Ny263 := A0_ hy263; clear hy263; have H' := A0_ H; clear H
              have p235 : 0 ≤ (x20_1 : Int) := zd
              have q235 : x20_1 < (t232.length : Int) := zd
              obtain ⟨ad235, e235, hx235_0⟩ := tI (rR HO_18.out).2.2 x20_1 p235 q235
              cases e235
              replace p235 := eq_true p235; replace q235 := eq_true q235
              have p236 : 0 ≤ (x20_1 : Int) := zd
              have q236 : x20_1 < (l1.length : Int) := zd
              obtain ⟨ad236, A236_0, c236_0, e236, hx236_0, hl236_0, hi236_0⟩ := at_L1 HR1.out x20_1 p236 q236
              cases e236
              try replace hx236_0 := (HB.out.cell (wL w _ hx236_0)).trans hx236_0
              have HR236_0 := A0_ hi236_0; have HC236_0 := A0_ hl236_0; clear hi236_0 hl236_0; replace p236 := eq_true p236; replace q236 := eq_true q236
              go_wp2_with (first | ((with_reducible refine gC (f := 106) rfl ?_); refine zJ (some 29) Try.func106 #[.slice A236_0 (rd_L1 l1 x20_1).length c236_0] ?_; (with_reducible refine (slices_Clone_int_int.calls _ _ (rd_L1 l1 x20_1) t237 _ ?side1 ?side2 A19.out).mono ?_); (case side1 => exact zC HR236_0 HB); (case side2 => exact HC236_0.out); rintro e w58 ⟨v238, rfl, ho0, hb⟩; refine ⟨_, rfl, ?_⟩; replace HO_10 := A0_ (Kd.S_elder' (zS_ HO_10) (Kd.R_base ho0) hb); have HO239 := A0_ (rL (Kd.R_new' (Kd.R_new' ho0 (rX (zR_ HO_9))) (rX (zR_ HO_18))) (bZ (zB_ HB))); replace HO_9 := A0_ (Kd.R_elder' (zR_ HO_9) (Kd.R_base ho0) hb); replace HO_18 := A0_ (Kd.R_elder' (zR_ HO_18) (Kd.R_base ho0) hb); replace BK225 := zK BK225 hb; replace HB := zB HB hb; (try clear hb); (try clear ho0); obtain ⟨Ao59, co59, eo59⟩ := rS HO_9.out; subst eo59; have p240 : 0 ≤ ((rd t232 x20_1) : Int) := zd; have q240 : (rd t232 x20_1) < (t226.length : Int) := zd; obtain ⟨ad240, e240, hx240_0⟩ := tI (rR HO_9.out).2.2 (rd t232 x20_1) p240 q240; cases e240; replace p240 := eq_true p240; replace q240 := eq_true q240; have hcz60_0 := zc0 BK225; have hcz60_1 := zc1 BK225; have hfz60_0 := kF BK225.out 0; have hfz60_1 := kF BK225.out 1; have p258 : 0 ≤ ((rd t232 x20_1) : Int) := zd; have q258 : (rd t232 x20_1) < (l0_1.length : Int) := zd; obtain ⟨ad258, e258, hx258_0⟩ := tI HR0_1.out (rd t232 x20_1) p258 q258; cases e258; try replace hx258_0 := (HB.out.cell (wL w _ hx258_0)).trans hx258_0; replace p258 := eq_true p258; replace q258 := eq_true q258; have p259 : 0 ≤ ((rd l0_1 (rd t232 x20_1)) : Int) := zd; have q259 : (rd l0_1 (rd t232 x20_1)) < (t226.length : Int) := zd; obtain ⟨ad259, e259, hx259_0⟩ := tI (rR HO_9.out).2.2 (rd l0_1 (rd t232 x20_1)) p259 q259; obtain rfl : ad240 = ad259 := (by injection e259); replace p259 := eq_true p259; replace q259 := eq_true q259; obtain ⟨Ao61, co61, eo61⟩ := rS HO239.out; subst eo61) | ((with_reducible refine gC (f := 69) rfl ?_); refine zJ (some 52) Try.func69 #[.slice Ao61 t237.length co61, .slice A3 l3.length c3] ?_; (with_reducible refine (impl_mul.calls k1 _ _ t237 _ _ l3 t260 _ ?side1 ?side2 ?side3 ?side4 A56.out).mono ?_); (case side1 => exact zD HO239); (case side2 => exact (rR HO239.out).2.1); (case side3 => exact zC HR3 HB); (case side4 => exact HC3.out); rintro e w62 ⟨v261, rfl, ho0, hb⟩; refine ⟨_, rfl, ?_⟩; replace HO_10 := A0_ (Kd.S_elder' (zS_ HO_10) (Kd.R_base ho0) hb); have HO262 := A0_ (rL (Kd.R_new' (Kd.R_new' (Kd.R_new' ho0 (rX (zR_ HO_9))) (rX (zR_ HO_18))) (rX (zR_ HO239))) (bZ (zB_ HB))); replace HO_9 := A0_ (Kd.R_elder' (zR_ HO_9) (Kd.R_base ho0) hb); replace HO_18 := A0_ (Kd.R_elder' (zR_ HO_18) (Kd.R_base ho0) hb); replace HO239 := A0_ (Kd.R_elder' (zR_ HO239) (Kd.R_base ho0) hb); replace BK225 := zK BK225 hb; replace HB := zB HB hb; (try clear hb); (try clear ho0); obtain ⟨Ao64, co64, eo64⟩ := rS HO262.out; subst eo64) | ((with_reducible refine gB (b := .append) (xs := #[.tmp 53, .tmp 55]) rfl ?_); at_builtin; refine Kd.S_append (Kd.slice 3 (Kd.int .i64)) (w0 := w) w.heap.size rfl (.tmp 53) (.tmp 55) 26 23 (.slice none 0 0) 24 rfl Try.underlying26 info23 rfl (by decide) (by omega) u10 x10_1 t260 [.slice Ao64 t260.length co64] (fun k_ => some k_ ≠ (.slice (some ad240) t226.length co59 : Value).ownBlock ∧ some k_ ≠ (.slice (some ad235) t232.length co14 : Value).ownBlock ∧ some k_ ≠ (.slice Ao61 t237.length co61 : Value).ownBlock) (fun k_ => some k_ = (.slice Ao64 t260.length co64 : Value).ownBlock) rfl rfl ?aP (fun k_ hk_ => ((rM (ok' := fun k_ => ((fun k_ => some k_ ≠ (.slice (some ad240) t226.length co59 : Value).ownBlock ∧ some k_ ≠ (.slice (some ad235) t232.length co14 : Value).ownBlock ∧ some k_ ≠ (.slice Ao61 t237.length co61 : Value).ownBlock)) k_ ∧ some k_ ≠ (u10 : Value).ownBlock) (Kd.R_apart' (HO262.out) (Kd.S_typed HO_10.out) (by decide)) (fun k_ hk => ⟨⟨hk.1.1.1.2, ⟨hk.1.1.2, hk.1.2⟩⟩, hk.2⟩))).1 k_ hk_.symm) ?aF ?aO ?aB ?aS ?aL ?_; (case aP => exact Kd.M_row (rM (Kd.R_tight rfl (rM (ok' := fun k_ => ((fun k_ => some k_ ≠ (.slice (some ad240) t226.length co59 : Value).ownBlock ∧ some k_ ≠ (.slice (some ad235) t232.length co14 : Value).ownBlock ∧ some k_ ≠ (.slice Ao61 t237.length co61 : Value).ownBlock)) k_ ∧ some k_ ≠ (u10 : Value).ownBlock) (Kd.R_apart' (HO262.out) (Kd.S_typed HO_10.out) (by decide)) (fun k_ hk => ⟨⟨hk.1.1.1.2, ⟨hk.1.1.2, hk.1.2⟩⟩, hk.2⟩))) (fun _ h_ => h_))); (case aB => exact (zB_ HB)); (case aF => exact (fun k_ hk => ⟨Kd.fresh' (rX (zR_ HO_9)) k_ hk, Kd.fresh' (rX (zR_ HO_18)) k_ hk, Kd.fresh' (rX (zR_ HO239)) k_ hk⟩)); (case aO => exact (zmS HO_10 (fun k_ hk => ⟨⟨hk.1.1.1, ⟨hk.1.1.2, hk.1.2⟩⟩, fun e_ => hk.2 e_⟩))); (case aS => exact (bZ (zB_ HB))); (case aL => have := LMc57.out; omega); intro v264 w63 ho hb hg hat; rw [← Ny263.out] at ho; replace HO_9 := A0_ (Kd.R_over' (zR_ HO_9) (Kd.S_typed (zS_ HO_10)) (by decide) hg); replace HO_18 := A0_ (Kd.R_over' (zR_ HO_18) (Kd.S_typed (zS_ HO_10)) (by decide) hg); replace BK225 := A0_ (blk_grown (g := gb225) (o := .cells #[.slice A0_0 l0_0.length c0_0, .slice (some ad258) l0_1.length c0_1] 25 (0, 0)) (zK_ BK225) hg (Kd.S_ne HO_10.out BK225.out (by decide))); replace HO239 := A0_ (Kd.R_over' (zR_ HO239) (Kd.S_typed (zS_ HO_10)) (by decide) hg); replace HB := A0_ (hb); have HO265 := A0_ (ho); clear HO_10 HO262 ho hb hg hat))
              go_roundg k1
              case measure => have := HK1.out; omega
              case rel => exact ⟨(y263), (wrap64 (x20_1 + 1)), zt, H', ⟨by have := HK1.out; omega⟩, ⟨zmR HO_9 (fun _ hk => hk.1.1)⟩, ⟨zmS HO265 (fun _ hk => ⟨hk.1, hk.2.1⟩)⟩, ⟨zmR HO_18 (fun _ hk => hk.1.1)⟩, ⟨zK_ BK225⟩, ⟨zB_ HB⟩⟩
             rw [if_neg c57] at H
             exact absurd H (by simp)
            rw [if_neg c55] at H
            have c55b0 : ((rd t226 (rd l0_1 (rd t232 x20_1))) == a2) = false := beq_eq_false_iff_ne.mpr c55
            have c55b1 : ((rd t226 (rd l0_1 (rd t232 x20_1))) != a2) = true := bne_iff_ne.mpr c55
            by_cases c65 : x10_1.length < 5864062014805
            ·rw [if_pos c65] at H
             have LMc65 := A0_ c65; clear c65
             obtain ⟨y266, hy266⟩ : ∃ y_ : List (List Int), y_ = (x10_1 ++ [t237]) := ⟨_, rfl⟩
             replace H : (impl_conjAt.l0 k1 l1 a2 l3 t226 y266 t232 (t232.length : Int) (wrap64 (x20_1 + 1)) l0_0 l0_1) = some r := zH hy266 H
             have Ny266 := A0_ hy266; clear hy266; have H' := A0_ H; clear H
             have p235 : 0 ≤ (x20_1 : Int) := zd
             have q235 : x20_1 < (t232.length : Int) := zd
             obtain ⟨ad235, e235, hx235_0⟩ := tI (rR HO_18.out).2.2 x20_1 p235 q235
             cases e235
             replace p235 := eq_true p235; replace q235 := eq_true q235
             have p236 : 0 ≤ (x20_1 : Int) := zd
             have q236 : x20_1 < (l1.length : Int) := zd
             obtain ⟨ad236, A236_0, c236_0, e236, hx236_0, hl236_0, hi236_0⟩ := at_L1 HR1.out x20_1 p236 q236
             cases e236
             try replace hx236_0 := (HB.out.cell (wL w _ hx236_0)).trans hx236_0
             have HR236_0 := A0_ hi236_0; have HC236_0 := A0_ hl236_0; clear hi236_0 hl236_0; replace p236 := eq_true p236; replace q236 := eq_true q236
             go_wp2_with (first | ((with_reducible refine gC (f := 106) rfl ?_); refine zJ (some 29) Try.func106 #[.slice A236_0 (rd_L1 l1 x20_1).length c236_0] ?_; (with_reducible refine (slices_Clone_int_int.calls _ _ (rd_L1 l1 x20_1) t237 _ ?side1 ?side2 A19.out).mono ?_); (case side1 => exact zC HR236_0 HB); (case side2 => exact HC236_0.out); rintro e w66 ⟨v238, rfl, ho0, hb⟩; refine ⟨_, rfl, ?_⟩; replace HO_10 := A0_ (Kd.S_elder' (zS_ HO_10) (Kd.R_base ho0) hb); have HO239 := A0_ (rL (Kd.R_new' (Kd.R_new' ho0 (rX (zR_ HO_9))) (rX (zR_ HO_18))) (bZ (zB_ HB))); replace HO_9 := A0_ (Kd.R_elder' (zR_ HO_9) (Kd.R_base ho0) hb); replace HO_18 := A0_ (Kd.R_elder' (zR_ HO_18) (Kd.R_base ho0) hb); replace BK225 := zK BK225 hb; replace HB := zB HB hb; (try clear hb); (try clear ho0); obtain ⟨Ao67, co67, eo67⟩ := rS HO_9.out; subst eo67; have p240 : 0 ≤ ((rd t232 x20_1) : Int) := zd; have q240 : (rd t232 x20_1) < (t226.length : Int) := zd; obtain ⟨ad240, e240, hx240_0⟩ := tI (rR HO_9.out).2.2 (rd t232 x20_1) p240 q240; cases e240; replace p240 := eq_true p240; replace q240 := eq_true q240; have hcz68_0 := zc0 BK225; have hcz68_1 := zc1 BK225; have hfz68_0 := kF BK225.out 0; have hfz68_1 := kF BK225.out 1; have p258 : 0 ≤ ((rd t232 x20_1) : Int) := zd; have q258 : (rd t232 x20_1) < (l0_1.length : Int) := zd; obtain ⟨ad258, e258, hx258_0⟩ := tI HR0_1.out (rd t232 x20_1) p258 q258; cases e258; try replace hx258_0 := (HB.out.cell (wL w _ hx258_0)).trans hx258_0; replace p258 := eq_true p258; replace q258 := eq_true q258; have p259 : 0 ≤ ((rd l0_1 (rd t232 x20_1)) : Int) := zd; have q259 : (rd l0_1 (rd t232 x20_1)) < (t226.length : Int) := zd; obtain ⟨ad259, e259, hx259_0⟩ := tI (rR HO_9.out).2.2 (rd l0_1 (rd t232 x20_1)) p259 q259; obtain rfl : ad240 = ad259 := (by injection e259); replace p259 := eq_true p259; replace q259 := eq_true q259; obtain ⟨Ao70, co70, eo70⟩ := rS HO239.out; subst eo70) | ((with_reducible refine gB (b := .append) (xs := #[.tmp 53, .tmp 55]) rfl ?_); at_builtin; refine Kd.S_append (Kd.slice 3 (Kd.int .i64)) (w0 := w) w.heap.size rfl (.tmp 53) (.tmp 55) 26 23 (.slice none 0 0) 24 rfl Try.underlying26 info23 rfl (by decide) (by omega) u10 x10_1 t237 [.slice Ao70 t237.length co70] (fun k_ => some k_ ≠ (.slice (some ad240) t226.length co67 : Value).ownBlock ∧ some k_ ≠ (.slice (some ad235) t232.length co14 : Value).ownBlock) (fun k_ => some k_ = (.slice Ao70 t237.length co70 : Value).ownBlock) rfl rfl ?aP (fun k_ hk_ => ((rM (ok' := fun k_ => ((fun k_ => some k_ ≠ (.slice (some ad240) t226.length co67 : Value).ownBlock ∧ some k_ ≠ (.slice (some ad235) t232.length co14 : Value).ownBlock)) k_ ∧ some k_ ≠ (u10 : Value).ownBlock) (Kd.R_apart' (HO239.out) (Kd.S_typed HO_10.out) (by decide)) (fun k_ hk => ⟨⟨hk.1.1.2, hk.1.2⟩, hk.2⟩))).1 k_ hk_.symm) ?aF ?aO ?aB ?aS ?aL ?_; (case aP => exact Kd.M_row (rM (Kd.R_tight rfl (rM (ok' := fun k_ => ((fun k_ => some k_ ≠ (.slice (some ad240) t226.length co67 : Value).ownBlock ∧ some k_ ≠ (.slice (some ad235) t232.length co14 : Value).ownBlock)) k_ ∧ some k_ ≠ (u10 : Value).ownBlock) (Kd.R_apart' (HO239.out) (Kd.S_typed HO_10.out) (by decide)) (fun k_ hk => ⟨⟨hk.1.1.2, hk.1.2⟩, hk.2⟩))) (fun _ h_ => h_))); (case aB => exact (zB_ HB)); (case aF => exact (fun k_ hk => ⟨Kd.fresh' (rX (zR_ HO_9)) k_ hk, Kd.fresh' (rX (zR_ HO_18)) k_ hk⟩)); (case aO => exact (zmS HO_10 (fun k_ hk => ⟨⟨hk.1.1, hk.1.2⟩, fun e_ => hk.2 e_⟩))); (case aS => exact (bZ (zB_ HB))); (case aL => have := LMc65.out; omega); intro v267 w69 ho hb hg hat; rw [← Ny266.out] at ho; replace HO_9 := A0_ (Kd.R_over' (zR_ HO_9) (Kd.S_typed (zS_ HO_10)) (by decide) hg); replace HO_18 := A0_ (Kd.R_over' (zR_ HO_18) (Kd.S_typed (zS_ HO_10)) (by decide) hg); replace BK225 := A0_ (blk_grown (g := gb225) (o := .cells #[.slice A0_0 l0_0.length c0_0, .slice (some ad258) l0_1.length c0_1] 25 (0, 0)) (zK_ BK225) hg (Kd.S_ne HO_10.out BK225.out (by decide))); replace HB := A0_ (hb); have HO268 := A0_ (ho); clear HO_10 HO239 ho hb hg hat))
             go_roundg k1
             case measure => have := HK1.out; omega
             case rel => exact ⟨(y266), (wrap64 (x20_1 + 1)), zt, H', ⟨by have := HK1.out; omega⟩, ⟨zmR HO_9 (fun _ hk => hk.1)⟩, ⟨zS_ HO268⟩, ⟨zmR HO_18 (fun _ hk => hk.1)⟩, ⟨zK_ BK225⟩, ⟨zB_ HB⟩⟩
            rw [if_neg c65] at H
            exact absurd H (by simp)
           rw [if_neg c54] at H
           exact absurd H (by simp)
          rw [if_neg c53] at H
          exact absurd H (by simp)
         rw [if_neg c52] at H
         exact absurd H (by simp)
        rw [if_neg c21] at H
        exact absurd H (by simp)
       rw [if_neg c20] at H
       exact absurd H (by simp)
      rw [if_neg c18] at H
      exact absurd H (by simp)
     rw [if_neg c17] at H
     exact absurd H (by simp)
    rw [if_neg c16] at H
    exact absurd H (by simp)
   rw [if_neg c15] at H; have c15b0 := dF c15; clear c15; obtain rfl := sI H
   go_wp2
   go_ret
   exact ⟨_, by first | rfl | (simp [*] <;> rfl), zmS HO_10 (fun _ hk => trivial), zB_ HB⟩

/-! ### impl_copyLists: function 64 -/
def impl_copyLists.l0 : Nat → List (List Int) → List (List Int) → Int → Int → Option ((List (List Int)))
  | 0, _, _, _, _ => none
  | k + 1, x3, x7, x8, x9 => if x9 < x8 then (if 0 ≤ x9 then (if x9 < (x7.length : Int) then ((slices_Clone_int_int.f (rd_L1 x7 x9)).bind fun t273 => (if x3.length < 5864062014805 then (impl_copyLists.l0 k (x3 ++ [t273]) x7 x8 (wrap64 (x9 + 1))) else (none))) else (none)) else (none)) else (some x3)
def impl_copyLists.f (k : Nat) (l0 : List (List Int)) : Option ((List (List Int))) := impl_copyLists.l0 k (([] : List (List Int))) l0 (l0.length : Int) 0
set_option maxHeartbeats 8000000 in
set_option maxRecDepth 100000 in
theorem impl_copyLists.calls (k : Nat) (A0 : Option Addr) (c0 : Nat) (l0 : List (List Int)) (r : List (List Int)) (w : World) (hr0 : Kd.C (Kd.slice 3 (Kd.int .i64)) w A0 l0.length l0) (hc0 : l0.length ≤ c0) (h : impl_copyLists.f k l0 = some r) :
    Calls Try.prog 64 #[.slice A0 l0.length c0] w fun e w' => ∃ v0_ : Value, e = .returned (v0_) ∧ Kd.S (Kd.slice 3 (Kd.int .i64)) 23 w' w.heap.size (fun _ => True) v0_ r ∧ Below w.heap.size w w' := by
 have HR0 := A0_ hr0; have HC0 := A0_ hc0; clear hr0 hc0
 have HB := A0_ (Below.refl w.heap.size w)
 have H : (impl_copyLists.l0 k (([] : List (List Int))) l0 (l0.length : Int) 0) = some r := h
 clear h
 obtain ⟨y269, hy269⟩ : ∃ y_ : List (List Int), y_ = (([] : List (List Int))) := ⟨_, rfl⟩
 replace H : (impl_copyLists.l0 k y269 l0 (l0.length : Int) 0) = some r := zH hy269 H
 have Ny269 := A0_ hy269; clear hy269; have H' := A0_ H; clear H
 go_enter Try.func64, Try.ntmps64
 go_wp2_with (first | ((with_reducible refine gD (N := 6) rfl ?_); refine Kd.S_lit (Kd.slice 3 (Kd.int .i64)) _ 23 ?hg (N := 6) ?hd (xs := ([] : List (List Int))) (inner := []) (ok := fun _ => True) (okp := fun _ => True) ?hr ?hp (fun _ hk => hk) trivial (Below.refl _ _) (Nat.le_refl _) (by simp) ?_; (case hd => rfl); (case hg => rfl); (case hr => first | (go_simp; done) | (go_simp; rfl)); (case hp => exact (Reps.none _ _)); intro v270 w2 ho3 hb hg_ hnew_; clear hg_ hnew_; (first | rw [← Ny269.out] at ho3 | (simp only [Int.reduceToNat] at ho3; rw [← Ny269.out] at ho3)); have HO271 := A0_ (Kd.S_lower ho3 (bZ (zB_ HB))); replace HB := zB HB hb; clear hb ho3))
 go_loopg [3, 9] k (fun kq v3 v9 w' => ∃ (x3_1 : List (List Int)) (x9_1 : Int), v9 = .int .i64 x9_1 ∧ Aside0 (impl_copyLists.l0 kq x3_1 l0 (l0.length : Int) x9_1 = some r) ∧ Aside0 (kq ≤ k) ∧ Aside0 (Kd.S (Kd.slice 3 (Kd.int .i64)) 23 w' w.heap.size (fun _ => True) v3 x3_1) ∧ Aside0 (Below w.heap.size w w'))
 case atStart => exact ⟨(y269), (0), zt, H', ⟨Nat.le_refl _⟩, ⟨zS_ HO271⟩, ⟨zB_ HB⟩⟩
 case round =>
  clear H'; (try clear p2); obtain ⟨x3_1, x9_1, rfl, HA, HK1, HO_3, HB⟩ := hrel
  cases gk with
  | zero => exact absurd HA.out (by simp [impl_copyLists.l0])
  | succ k1 =>
   have H := HA.out; clear HA; simp only [impl_copyLists.l0] at H
   by_cases c4 : x9_1 < (l0.length : Int)
   ·rw [if_pos c4] at H
    have c4b0 := dT c4; clear c4
    by_cases c5 : 0 ≤ x9_1
    ·rw [if_pos c5] at H
     have c5b0 := dT c5; clear c5
     by_cases c6 : x9_1 < (l0.length : Int)
     ·rw [if_pos c6] at H
      have c6b0 := dT c6; clear c6; obtain ⟨t273, A7, H⟩ := zbind H
      by_cases c8 : x3_1.length < 5864062014805
      ·rw [if_pos c8] at H
       have LMc8 := A0_ c8; clear c8
       obtain ⟨y276, hy276⟩ : ∃ y_ : List (List Int), y_ = (x3_1 ++ [t273]) := ⟨_, rfl⟩
       replace H : (impl_copyLists.l0 k1 y276 l0 (l0.length : Int) (wrap64 (x9_1 + 1))) = some r := zH hy276 H
       have Ny276 := A0_ hy276; clear hy276; have H' := A0_ H; clear H
       have p272 : 0 ≤ (x9_1 : Int) := zd
       have q272 : x9_1 < (l0.length : Int) := zd
       obtain ⟨ad272, A272_0, c272_0, e272, hx272_0, hl272_0, hi272_0⟩ := at_L1 HR0.out x9_1 p272 q272
       cases e272
       try replace hx272_0 := (HB.out.cell (wL w _ hx272_0)).trans hx272_0
       have HR272_0 := A0_ hi272_0; have HC272_0 := A0_ hl272_0; clear hi272_0 hl272_0; replace p272 := eq_true p272; replace q272 := eq_true q272
       go_wp2_with (first | ((with_reducible refine gC (f := 106) rfl ?_); refine zJ (some 15) Try.func106 #[.slice A272_0 (rd_L1 l0 x9_1).length c272_0] ?_; (with_reducible refine (slices_Clone_int_int.calls _ _ (rd_L1 l0 x9_1) t273 _ ?side1 ?side2 A7.out).mono ?_); (case side1 => exact zC HR272_0 HB); (case side2 => exact HC272_0.out); rintro e w9 ⟨v274, rfl, ho0, hb⟩; refine ⟨_, rfl, ?_⟩; replace HO_3 := A0_ (Kd.S_elder' (zS_ HO_3) (Kd.R_base ho0) hb); have HO275 := A0_ (rL ho0 (bZ (zB_ HB))); replace HB := zB HB hb; (try clear hb); (try clear ho0); obtain ⟨Ao11, co11, eo11⟩ := rS HO275.out; subst eo11) | ((with_reducible refine gB (b := .append) (xs := #[.tmp 13, .tmp 16]) rfl ?_); at_builtin; refine Kd.S_append (Kd.slice 3 (Kd.int .i64)) (w0 := w) w.heap.size rfl (.tmp 13) (.tmp 16) 26 23 (.slice none 0 0) 24 rfl Try.underlying26 info23 rfl (by decide) (by omega) u3 x3_1 t273 [.slice Ao11 t273.length co11] (fun _ => True) (fun k_ => some k_ = (.slice Ao11 t273.length co11 : Value).ownBlock) rfl rfl ?aP (fun k_ hk_ => ((rM (ok' := fun k_ => ((fun _ => True)) k_ ∧ some k_ ≠ (u3 : Value).ownBlock) (Kd.R_apart' (HO275.out) (Kd.S_typed HO_3.out) (by decide)) (fun k_ hk => ⟨trivial, hk.2⟩))).1 k_ hk_.symm) ?aF ?aO ?aB ?aS ?aL ?_; (case aP => exact Kd.M_row (rM (Kd.R_tight rfl (rM (ok' := fun k_ => ((fun _ => True)) k_ ∧ some k_ ≠ (u3 : Value).ownBlock) (Kd.R_apart' (HO275.out) (Kd.S_typed HO_3.out) (by decide)) (fun k_ hk => ⟨trivial, hk.2⟩))) (fun _ h_ => h_))); (case aB => exact (zB_ HB)); (case aF => exact (fun _ _ => trivial)); (case aO => exact (zmS HO_3 (fun k_ hk => ⟨trivial, fun e_ => hk.2 e_⟩))); (case aS => exact (bZ (zB_ HB))); (case aL => have := LMc8.out; omega); intro v277 w10 ho hb hg hat; rw [← Ny276.out] at ho; replace HB := A0_ (hb); have HO278 := A0_ (ho); clear HO_3 HO275 ho hb hg hat))
       go_roundg k1
       case measure => have := HK1.out; omega
       case rel => exact ⟨(y276), (wrap64 (x9_1 + 1)), zt, H', ⟨by have := HK1.out; omega⟩, ⟨zS_ HO278⟩, ⟨zB_ HB⟩⟩
      rw [if_neg c8] at H
      exact absurd H (by simp)
     rw [if_neg c6] at H
     exact absurd H (by simp)
    rw [if_neg c5] at H
    exact absurd H (by simp)
   rw [if_neg c4] at H; have c4b0 := dF c4; clear c4; obtain rfl := sI H
   go_wp2
   go_ret
   exact ⟨_, by first | rfl | (simp [*] <;> rfl), zS_ HO_3, zB_ HB⟩

end Go.Proofs.Ytmegggomhjgehaa.PFnBranch
