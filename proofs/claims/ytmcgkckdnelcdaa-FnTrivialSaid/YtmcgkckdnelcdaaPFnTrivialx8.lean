-- Made by a program of this session (wip/tools) out of the loaded program; not trusted: Lean checks it.
import Derived.Test.YtmcgkckdnelcdaaPFnTrivialx0
import Derived.Test.YtmcgkckdnelcdaaPFnTrivialx4
import Derived.Test.YtmcgkckdnelcdaaPFnTrivialx7
-- packed
namespace Go.Proofs.Ytmcgkckdnelcdaa.PFnTrivial
open Go.RowKit Go.Proofs.YtmcgkckdnelcdaaW.PrintWords Go.Proofs.YtmcgkckdnelcdaaW.PrintLast Go.Proofs.YtmcgkckdnelcdaaW.PrintMore
attribute [local go_sem] max2_int min2_int max_two min_two max_three min_three max_four min_four   -- for this text's walks alone
set_option linter.unusedVariables false
set_option linter.unusedSimpArgs false

/-! ### impl_vertexOf: function 84 -/
mutual
def impl_vertexOf.l0 : Nat → List Int → List (List Int) → Int → Int → Option (List Int)
  | 0, _, _, _, _ => none
  | k + 1, x3, x14, x15, x16 => if x16 < x15 then (if 0 ≤ x16 then (if x16 < (x14.length : Int) then (impl_vertexOf.l1 k x3 x16 x14 x15 x16 (rd_L1 x14 x16) ((rd_L1 x14 x16).length : Int) 0) else (none)) else (none)) else (some x3)
def impl_vertexOf.l1 : Nat → List Int → Int → List (List Int) → Int → Int → List Int → Int → Int → Option (List Int)
  | 0, _, _, _, _, _, _, _, _ => none
  | k + 1, x3, x4, x14, x15, x16, x21, x22, x23 => if x23 < x22 then (if 0 ≤ x23 then (if x23 < (x21.length : Int) then (if 0 ≤ (rd x21 x23) then (if (rd x21 x23) < (x3.length : Int) then (impl_vertexOf.l1 k (x3.set ((rd x21 x23) : Int).toNat x4) x4 x14 x15 x16 x21 x22 (wrap64 (x23 + 1))) else (none)) else (none)) else (none)) else (none)) else (impl_vertexOf.l0 k x3 x14 x15 (wrap64 (x16 + 1)))
end
def impl_vertexOf.f (k : Nat) (l0_0 : List Int) (l0_1 : List Int) : Option (List Int) := if 0 ≤ (l0_0.length : Int) then (if ((l0_0.length : Int) : Int).toNat ≤ 35184372088832 then ((impl_cyclesOf.f k l0_0).bind fun t323 => (impl_vertexOf.l0 k (List.replicate ((l0_0.length : Int) : Int).toNat 0) t323 (t323.length : Int) 0)) else (none)) else (none)
set_option maxHeartbeats 8000000 in
set_option maxRecDepth 100000 in
theorem impl_vertexOf.calls (k : Nat) (A0_0 : Option Addr) (c0_0 : Nat) (l0_0 : List Int) (A0_1 : Option Addr) (c0_1 : Nat) (l0_1 : List Int) (r : List Int) (w : World) (hr0_0 : Kd.C (Kd.int .i64) w A0_0 l0_0.length l0_0) (hc0_0 : l0_0.length ≤ c0_0) (hr0_1 : Kd.C (Kd.int .i64) w A0_1 l0_1.length l0_1) (hc0_1 : l0_1.length ≤ c0_1) (h : impl_vertexOf.f k l0_0 l0_1 = some r) :
    Calls Try.prog 84 #[.agg #[.slice A0_0 l0_0.length c0_0, .slice A0_1 l0_1.length c0_1]] w fun e w' => ∃ v0_ : Value, e = .returned (v0_) ∧ Kd.R (Kd.int .i64) 3 w' w.heap.size (fun _ => True) v0_ r ∧ Below w.heap.size w w' := by
 have hu29 := Try.underlying29; have HR0_0 := A0_ hr0_0; have HC0_0 := A0_ hc0_0; clear hr0_0 hc0_0; have HR0_1 := A0_ hr0_1; have HC0_1 := A0_ hc0_1; clear hr0_1 hc0_1
 have HB := A0_ (Below.refl w.heap.size w)
 have H : (if 0 ≤ (l0_0.length : Int) then (if ((l0_0.length : Int) : Int).toNat ≤ 35184372088832 then ((impl_cyclesOf.f k l0_0).bind fun t323 => (impl_vertexOf.l0 k (List.replicate ((l0_0.length : Int) : Int).toNat 0) t323 (t323.length : Int) 0)) else (none)) else (none)) = some r := h
 clear h
 by_cases c2 : 0 ≤ (l0_0.length : Int)
 ·rw [if_pos c2] at H
  have c2b0 := eq_true c2; have c2b1 := dT c2; clear c2
  by_cases c3 : ((l0_0.length : Int) : Int).toNat ≤ 35184372088832
  ·rw [if_pos c3] at H
   have c3b0 := eq_true c3; have c3b1 := dT c3; clear c3
   obtain ⟨y320, hy320⟩ : ∃ y_ : List Int, y_ = (List.replicate ((l0_0.length : Int) : Int).toNat 0) := ⟨_, rfl⟩
   replace H : ((impl_cyclesOf.f k l0_0).bind fun t323 => (impl_vertexOf.l0 k y320 t323 (t323.length : Int) 0)) = some r := zH hy320 H
   have Ny320 := A0_ hy320; clear hy320; obtain ⟨t323, A4, H⟩ := zbind H; have H' := A0_ H; clear H
   go_enter Try.func84, Try.ntmps84
   go_wp2_with (first | ((with_reducible refine gD (N := 1) rfl ?_); refine zX (N := 1) (cs := #[.slice A0_0 l0_0.length c0_0, .slice A0_1 l0_1.length c0_1]) (t := 29) ?_; intro gb319 hg w5 hbox hb; have BK319 := A0_ (hbox); have GW319 := zG hg HB; have GE319 := zG hg HB; replace HB := zB HB hb; clear hb hbox hg; have hcz6_0 := zc0 BK319; have hcz6_1 := zc1 BK319; have hfz6_0 := kF BK319.out 0; have hfz6_1 := kF BK319.out 1) | ((with_reducible refine gD (N := 11) rfl ?_); refine Kd.R_make (Kd.int .i64) _ 3 rfl (N := 11) rfl 22 _ _ rfl (l0_0.length : Int) rfl rfl Try.underlying22 (.int .i64 0) 8 info3 rfl (by decide) (by omega) 0 (ok := fun _ => True) (okp := fun _ => True) rfl (fun _ hk => hk) trivial (zd) (Nat.le_trans (Nat.mul_le_mul_right _ (zd : (l0_0.length : Int).toNat ≤ 35184372088832)) (by omega)) (Below.refl _ _) (Nat.le_refl _) ?_; intro v321 w7 ho8 hb hg_ hnew_; clear hg_ hnew_; (first | rw [← Ny320.out] at ho8 | (simp only [Int.reduceToNat] at ho8; rw [← Ny320.out] at ho8)); have HO322 := A0_ (rL ho8 (bZ (zB_ HB))); replace BK319 := zK BK319 hb; replace HB := zB HB hb; clear hb ho8; have hcz9_0 := zc0 BK319; have hcz9_1 := zc1 BK319; have hfz9_0 := kF BK319.out 0; have hfz9_1 := kF BK319.out 1) | ((with_reducible refine gC (f := 75) rfl ?_); refine zJ (some 14) Try.func75 #[.slice A0_0 l0_0.length c0_0] ?_; (with_reducible refine (impl_cyclesOf.calls k _ _ l0_0 t323 _ ?side1 ?side2 A4.out).mono ?_); (case side1 => exact zC HR0_0 HB); (case side2 => exact HC0_0.out); rintro e w10 ⟨v324, rfl, ho0, hb⟩; refine ⟨_, rfl, ?_⟩; have HO325 := A0_ (Kd.S_lower (Kd.S_new' ho0 (rX (zR_ HO322))) (bZ (zB_ HB))); replace HO322 := zR HO322 hb; replace BK319 := zK BK319 hb; replace HB := zB HB hb; (try clear hb); (try clear ho0); obtain ⟨Ao11, co11, eo11⟩ := Kd.S_slice HO325.out; subst eo11))
   go_loopg [16] k (fun kq v16 w' => ∃ (x3_1 : List Int) (x16_1 : Int), v16 = .int .i64 x16_1 ∧ Aside0 (impl_vertexOf.l0 kq x3_1 t323 (t323.length : Int) x16_1 = some r) ∧ Aside0 (kq ≤ k) ∧ Aside0 (Kd.R (Kd.int .i64) 3 w' w.heap.size (fun _ => True) v321 x3_1) ∧ Aside0 (Kd.S (Kd.slice 3 (Kd.int .i64)) 22 w' w.heap.size (fun k_ => some k_ ≠ (v321 : Value).ownBlock) (.slice Ao11 t323.length co11) t323) ∧ Aside0 (w'.heap[gb319]? = some (.cells #[(.slice A0_0 l0_0.length c0_0), (.slice A0_1 l0_1.length c0_1)] 29 (0, 0))) ∧ Aside0 (Below w.heap.size w w'))
   case atStart => exact ⟨(y320), (0), zt, H', ⟨Nat.le_refl _⟩, ⟨zR_ HO322⟩, ⟨zmS HO325 (fun _ hk => hk.2)⟩, ⟨zK_ BK319⟩, ⟨zB_ HB⟩⟩
   case round =>
    clear H'; (try clear c2); (try clear c2b0); (try clear c2b1); (try clear p2); (try clear c3); (try clear c3b0); (try clear c3b1); (try clear c7); (try clear c8); (try clear hcz6_0); (try clear hcz6_1); (try clear hcz9_0); (try clear hcz9_1); (try clear hfz6_0); (try clear hfz6_1); (try clear hfz9_0); (try clear hfz9_1); obtain ⟨x3_1, x16_1, rfl, HA, HK1, HO_3, HO_14, BK319, HB⟩ := hrel
    cases gk with
    | zero => exact absurd HA.out (by simp [impl_vertexOf.l0])
    | succ k1 =>
     have H := HA.out; clear HA; simp only [impl_vertexOf.l0] at H
     by_cases c12 : x16_1 < (t323.length : Int)
     ·rw [if_pos c12] at H
      have c12b0 := dT c12; clear c12
      by_cases c13 : 0 ≤ x16_1
      ·rw [if_pos c13] at H
       have c13b0 := dT c13; clear c13
       by_cases c14 : x16_1 < (t323.length : Int)
       ·rw [if_pos c14] at H
        have c14b0 := dT c14; clear c14; have H' := A0_ H; clear H
        have p326 : 0 ≤ (x16_1 : Int) := zd
        have q326 : x16_1 < (t323.length : Int) := zd
        obtain ⟨ad326, A326_0, c326_0, e326, hx326_0, hl326_0, hi326_0⟩ := at_L1 (Kd.S_reads' HO_14.out).2.2 x16_1 p326 q326
        cases e326
        obtain ⟨ce326, hce326, hMe326, hcc326⟩ := Kd.S_get HO_14.out [] x16_1 p326 (by first | exact q326 | exact zd | (have e_ := (Kd.S_reads' HO_14.out).1; omega))
        obtain ⟨ve326_0, rfl, ge326_0⟩ := hMe326; have hv326_0 := hcc326 0 _ rfl
        rw [Nat.add_zero, show ((Kd.slice 3 (Kd.int .i64))).sz = 1 from rfl, Nat.mul_one] at hv326_0
        replace hv326_0 := sI (hv326_0.symm.trans hx326_0)
        rw [hv326_0] at ge326_0
        have HL326_0 := A0_ (show Kd.R (Kd.int .i64) 3 _ _ _ _ (rd_L1 t323 x16_1) from ge326_0)
        clear hv326_0 ge326_0 hcc326 hce326; have HR326_0 := A0_ hi326_0; have HC326_0 := A0_ hl326_0; clear hi326_0 hl326_0; replace p326 := eq_true p326; replace q326 := eq_true q326
        go_wp2
        go_loopg [23] k1 (fun kq v23 w' => ∃ (x3_2 : List Int) (x23_2 : Int), v23 = .int .i64 x23_2 ∧ Aside0 (impl_vertexOf.l1 kq x3_2 x16_1 t323 (t323.length : Int) x16_1 (rd_L1 t323 x16_1) ((rd_L1 t323 x16_1).length : Int) x23_2 = some r) ∧ Aside0 (kq ≤ k1) ∧ Aside0 (Kd.R (Kd.int .i64) 3 w' w.heap.size (fun _ => True) v321 x3_2) ∧ Aside0 (Kd.S (Kd.slice 3 (Kd.int .i64)) 22 w' w.heap.size (fun k_ => some k_ ≠ (v321 : Value).ownBlock) (.slice (some ad326) t323.length co11) t323) ∧ Aside0 (Kd.R (Kd.int .i64) 3 w' w.heap.size (fun k_ => some k_ ≠ (v321 : Value).ownBlock) (.slice A326_0 (rd_L1 t323 x16_1).length c326_0) (rd_L1 t323 x16_1)) ∧ Aside0 (w'.heap[gb319]? = some (.cells #[(.slice A0_0 l0_0.length c0_0), (.slice A0_1 l0_1.length c0_1)] 29 (0, 0))) ∧ Aside0 (Below w.heap.size w w'))
        case atStart => exact ⟨(x3_1), (0), zt, H', ⟨Nat.le_refl _⟩, ⟨zR_ HO_3⟩, ⟨zS_ HO_14⟩, ⟨zmR HL326_0 (fun _ hk => hk.1)⟩, ⟨zK_ BK319⟩, ⟨zB_ HB⟩⟩
        case round =>
         clear H'; (try clear c1); (try clear c2); (try clear c2b0); (try clear c2b1); (try clear p2); (try clear c3); (try clear c3b0); (try clear c3b1); (try clear p3); (try clear q3); (try clear hx3); (try clear c7); (try clear c8); (try clear c12); (try clear c12b0); (try clear c13); (try clear c13b0); (try clear c14); (try clear c14b0); (try clear hcz6_0); (try clear hcz6_1); (try clear hcz9_0); (try clear hcz9_1); (try clear hfz6_0); (try clear hfz6_1); (try clear hfz9_0); (try clear hfz9_1); (try clear hx326_0); (try clear p2); (try clear p326); (try clear q326); obtain ⟨x3_2, x23_2, rfl, HA, HK2, HO_3, HO_14, HL326_0, BK319, HB⟩ := hrel
         cases gk with
         | zero => exact absurd HA.out (by simp [impl_vertexOf.l1])
         | succ k2 =>
          have H := HA.out; clear HA; simp only [impl_vertexOf.l1] at H
          by_cases c15 : x23_2 < ((rd_L1 t323 x16_1).length : Int)
          ·rw [if_pos c15] at H
           have c15b0 := dT c15; clear c15
           by_cases c16 : 0 ≤ x23_2
           ·rw [if_pos c16] at H
            have c16b0 := dT c16; clear c16
            by_cases c17 : x23_2 < ((rd_L1 t323 x16_1).length : Int)
            ·rw [if_pos c17] at H
             have c17b0 := dT c17; clear c17
             by_cases c18 : 0 ≤ (rd (rd_L1 t323 x16_1) x23_2)
             ·rw [if_pos c18] at H
              have c18b0 := dT c18; clear c18
              by_cases c19 : (rd (rd_L1 t323 x16_1) x23_2) < (x3_2.length : Int)
              ·rw [if_pos c19] at H
               have c19b0 := dT c19; clear c19
               obtain ⟨y328, hy328⟩ : ∃ y_ : List Int, y_ = (x3_2.set ((rd (rd_L1 t323 x16_1) x23_2) : Int).toNat x16_1) := ⟨_, rfl⟩
               replace H : (impl_vertexOf.l1 k2 y328 x16_1 t323 (t323.length : Int) x16_1 (rd_L1 t323 x16_1) ((rd_L1 t323 x16_1).length : Int) (wrap64 (x23_2 + 1))) = some r := zH hy328 H
               have Ny328 := A0_ hy328; clear hy328; have H' := A0_ H; clear H
               have p327 : 0 ≤ (x23_2 : Int) := zd
               have q327 : x23_2 < ((rd_L1 t323 x16_1).length : Int) := zd
               obtain ⟨ad327, e327, hx327_0⟩ := tI (rR HL326_0.out).2.2 x23_2 p327 q327
               cases e327
               replace p327 := eq_true p327; replace q327 := eq_true q327
               have p20 : 0 ≤ ((rd (rd_L1 t323 x16_1) x23_2) : Int) := zd
               have q20 : ((rd (rd_L1 t323 x16_1) x23_2) : Int) < ((x3_2.length : Int) : Int) := zd
               obtain ⟨go20, co20, eo20, gb20, gl20, cl20, HG20⟩ := Kd.R_form HO_3.out (by omega)
               (first | cases eo20 | (injection eo20 with ea_ en_ ec_; (first | subst ea_ | (injection ea_ with ea_; subst ea_)); subst ec_; clear en_))
               have GB20 := A0_ gb20; have GG20 := A0_ HG20; clear gb20 gl20 HG20
               obtain ⟨hx20_0, hf20_0⟩ := Kd.R_celln 0 HO_3.out ((rd (rd_L1 t323 x16_1) x23_2) : Int) p20 q20
               replace p20 := eq_true p20; replace q20 := eq_true q20
               have HP21 := Kd.R_putg HO_3.out ((rd (rd_L1 t323 x16_1) x23_2) : Int) x16_1
               go_wp2_with (first | ((with_reducible refine gS (t := 3) (p := 30) rfl ?_); refine store_event (t := 3) (p := 30) (v := ?vo_w22) (w1 := (wr.setCell ⟨go20, ((rd (rd_L1 t323 x16_1) x23_2) : Int).toNat, none⟩ (.int .i64 x16_1))) ?hg ?ho ?hn ?hr ?_; (case ho => rfl); (case hg => rfl); (case hn => rfl); (case hr => first | (go_simp; done) | (go_simp; rfl)); intro w22 hw; have hg : wr.grownBy w22 (some go20) := (by rw [hw]; exact HP21.2); have hp_ : Kd.R (Kd.int .i64) 3 w22 w.heap.size (fun _ => True) (.slice (some ⟨go20, 0, none⟩) x3_2.length co20) y328 := (by rw [hw, Ny328.out]; exact HP21.1); clear HP21; replace HO_14 := A0_ (Kd.S_after (v := (.slice (some ⟨go20, 0, none⟩) x3_2.length co20)) (v1 := (.slice (some ⟨go20, 0, none⟩) x3_2.length co20)) (ok := (fun _ => True)) (zmS HO_14 (fun _ hk => ⟨trivial, hk⟩)) hg (.inl rfl)); replace BK319 := A0_ (blk_grown (g := gb319) (o := .cells #[.slice A0_0 l0_0.length c0_0, .slice A0_1 l0_1.length c0_1] 29 (0, 0)) (zK_ BK319) hg (Kd.R_ne HO_3.out BK319.out (by decide))); replace HO_3 := A0_ (hp_); replace HB := A0_ ((by rw [hw]; exact bS (HB.out) GB20.out : Below w.heap.size w w22)); have HL2_ := A0_ (Kd.R_after (v := (.slice (some ⟨go20, 0, none⟩) x3_2.length co20)) (v1 := (.slice (some ⟨go20, 0, none⟩) x3_2.length co20)) (ok := (fun _ => True)) (zmR HL326_0 (fun _ hk => ⟨trivial, hk⟩)) hg (.inl rfl)); clear HL326_0; have HL326_0 := HL2_; clear HL2_ hg hw hp_))
               go_roundg k2
               case measure => have := HK1.out; have := HK2.out; omega
               case rel => exact ⟨(y328), (wrap64 (x23_2 + 1)), zt, H', ⟨by have := HK1.out; have := HK2.out; omega⟩, ⟨zR_ HO_3⟩, ⟨zmS HO_14 (fun _ hk => hk.2)⟩, ⟨zmR HL326_0 (fun _ hk => hk.2)⟩, ⟨zK_ BK319⟩, ⟨zB_ HB⟩⟩
              rw [if_neg c19] at H
              exact absurd H (by simp)
             rw [if_neg c18] at H
             exact absurd H (by simp)
            rw [if_neg c17] at H
            exact absurd H (by simp)
           rw [if_neg c16] at H
           exact absurd H (by simp)
          rw [if_neg c15] at H; have c15b0 := dF c15; clear c15; have H' := A0_ H; clear H
          go_wp2
          go_roundg k2
          case measure => have := HK1.out; have := HK2.out; omega
          case rel => exact ⟨(x3_2), (wrap64 (x16_1 + 1)), zt, H', ⟨by have := HK1.out; have := HK2.out; omega⟩, ⟨zR_ HO_3⟩, ⟨zS_ HO_14⟩, ⟨zK_ BK319⟩, ⟨zB_ HB⟩⟩
       rw [if_neg c14] at H
       exact absurd H (by simp)
      rw [if_neg c13] at H
      exact absurd H (by simp)
     rw [if_neg c12] at H; have c12b0 := dF c12; clear c12; obtain rfl := sI H
     go_wp2
     go_ret
     exact ⟨_, by first | rfl | (simp [*] <;> rfl), zR_ HO_3, zB_ HB⟩
  rw [if_neg c3] at H
  exact absurd H (by simp)
 rw [if_neg c2] at H
 exact absurd H (by simp)

/-! ### slices_Clone_int_int: function 102 -/
def slices_Clone_int_int.f (l0 : List Int) : Option (List Int) := if l0.length ≤ 1048576 then some l0 else none
set_option maxHeartbeats 8000000 in
set_option maxRecDepth 100000 in
theorem slices_Clone_int_int.calls (A0 : Option Addr) (c0 : Nat) (l0 : List Int) (r : List Int) (w : World) (hr0 : Kd.C (Kd.int .i64) w A0 l0.length l0) (hc0 : l0.length ≤ c0) (h : slices_Clone_int_int.f l0 = some r) :
    Calls Try.prog 102 #[.slice A0 l0.length c0] w fun e w' => ∃ v0_ : Value, e = .returned (v0_) ∧ Kd.R (Kd.int .i64) 3 w' w.heap.size (fun _ => True) v0_ r ∧ Below w.heap.size w w' := by
  unfold slices_Clone_int_int.f at h
  by_cases hl : l0.length ≤ 1048576
  · rw [if_pos hl] at h
    obtain rfl := sI h; clear h; have HR0 := A0_ hr0; have HC0 := A0_ hc0; have HL := A0_ hl; clear hr0 hc0 hl
    have HB := A0_ (Below.refl w.heap.size w)
    have he : ∀ w : World, (Go.binOp .eql 22 (.slice A0 l0.length c0) (.slice none 0 0)).run Try.prog w = .ok (.bool A0.isNone) w := fun w => by cases A0 <;> kernel_rfl
    cases A0 with
    | none =>
      have hz : l0 = [] := by
        rcases Nat.eq_zero_or_pos l0.length with z | z
        · exact List.length_eq_zero_iff.1 z
        obtain ⟨ad, e, _⟩ := HR0.out.2.2 z
        cases e
      have HZ := A0_ hz; clear hz
      go_enter Try.func102, Try.ntmps102
      go_wp2
      go_ret
      exact ⟨_, rfl, by rw [HZ.out]; exact Kd.R_nil _ _ _ _ _, HB.out⟩
    | some ad =>
      obtain ⟨y233, hy⟩ : ∃ y_ : List Int, y_ = ([] : List Int) := ⟨_, rfl⟩
      have Ny233 := A0_ hy; clear hy
      have Ny236 := A0_ (show l0 = y233 ++ l0 by rw [Ny233.out]; rfl)
      have LMc2 := A0_ (show y233.length + l0.length < 17592186044416 by rw [Ny233.out]; have := HL.out; simp; omega)
      go_enter Try.func102, Try.ntmps102
      go_wp2_with (first | ((with_reducible refine gD (N := 5) rfl ?_); refine Kd.R_lit (Kd.int .i64) _ 3 ?hg (N := 5) ?hd (xs := ([] : List Int)) (inner := []) (ok := fun _ => True) (okp := fun _ => True) ?hr ?hp (fun _ hk => hk) trivial (Below.refl _ _) (Nat.le_refl _) (by simp) ?_; (case hd => rfl); (case hg => rfl); (case hr => first | (go_simp; done) | (go_simp; rfl)); (case hp => exact (Reps.none _ _)); intro v234 w3 ho4 hb hg_ hnew_; clear hg_ hnew_; (first | rw [← Ny233.out] at ho4 | (simp only [Int.reduceToNat] at ho4; rw [← Ny233.out] at ho4)); have HO235 := A0_ (rL ho4 (bZ (zB_ HB))); replace HB := zB HB hb; clear hb ho4) | ((with_reducible refine gB (b := .append) (xs := #[.tmp 5, .tmp 6]) rfl ?_); at_builtin; refine Kd.R_append_rows (Kd.int .i64) (w0 := w) w.heap.size rfl (.tmp 5) (.tmp 6) 22 3 (.int .i64 0) 8 rfl Try.underlying22 info3 rfl (by decide) (by omega) v234 y233 l0 _ _ _ (fun _ => True) (fun _ => False) rfl rfl ?aO ?aR (fun _ _ h => h) (fun _ h => h.elim) ?aF ?aB ?aS ?aL ?_; (case aR => exact zC HR0 HB); (case aB => exact (zB_ HB)); (case aF => exact (fun _ _ => trivial)); (case aO => exact (zR_ HO235)); (case aS => exact (bZ (zB_ HB))); (case aL => have := LMc2.out; omega); intro v237 w5 ho hb hg hat; rw [← Ny236.out] at ho; replace HB := A0_ (hb); have HO238 := A0_ (ho); clear HO235 ho hb hg hat))
      go_ret
      exact ⟨_, rfl, zR_ HO238, (zB_ HB)⟩
  rw [if_neg hl] at h; cases h


/-! ### impl_conjAt: function 83 -/
def impl_conjAt.l0 : Nat → List (List Int) → Int → List Int → List Int → List (List Int) → List Int → Int → Int → List Int → List Int → Option ((List (List Int)))
  | 0, _, _, _, _, _, _, _, _, _, _ => none
  | k + 1, x1, x2, x3, x9, x10, x18, x19, x20, x330000, x330001 => if x20 < x19 then (if 0 ≤ x20 then (if x20 < (x18.length : Int) then (if x20 < (x1.length : Int) then ((slices_Clone_int_int.f (rd_L1 x1 x20)).bind fun t341 => (if 0 ≤ (rd x18 x20) then (if (rd x18 x20) < (x9.length : Int) then (if (rd x9 (rd x18 x20)) = x2 then ((impl_back.f k x3).bind fun t345 => ((impl_mul.f k t345 t341).bind fun t348 => (if (rd x18 x20) < (x330001.length : Int) then (if 0 ≤ (rd x330001 (rd x18 x20)) then (if (rd x330001 (rd x18 x20)) < (x9.length : Int) then (if (rd x9 (rd x330001 (rd x18 x20))) = x2 then ((impl_mul.f k t348 x3).bind fun t353 => (if x10.length < 5864062014805 then (impl_conjAt.l0 k x1 x2 x3 x9 (x10 ++ [t353]) x18 x19 (wrap64 (x20 + 1)) x330000 x330001) else (none))) else (if x10.length < 5864062014805 then (impl_conjAt.l0 k x1 x2 x3 x9 (x10 ++ [t348]) x18 x19 (wrap64 (x20 + 1)) x330000 x330001) else (none))) else (none)) else (none)) else (none)))) else (if (rd x18 x20) < (x330001.length : Int) then (if 0 ≤ (rd x330001 (rd x18 x20)) then (if (rd x330001 (rd x18 x20)) < (x9.length : Int) then (if (rd x9 (rd x330001 (rd x18 x20))) = x2 then ((impl_mul.f k t341 x3).bind fun t364 => (if x10.length < 5864062014805 then (impl_conjAt.l0 k x1 x2 x3 x9 (x10 ++ [t364]) x18 x19 (wrap64 (x20 + 1)) x330000 x330001) else (none))) else (if x10.length < 5864062014805 then (impl_conjAt.l0 k x1 x2 x3 x9 (x10 ++ [t341]) x18 x19 (wrap64 (x20 + 1)) x330000 x330001) else (none))) else (none)) else (none)) else (none))) else (none)) else (none))) else (none)) else (none)) else (none)) else (some x10)
def impl_conjAt.f (k : Nat) (l0_0 : List Int) (l0_1 : List Int) (l1 : List (List Int)) (a2 : Int) (l3 : List Int) : Option ((List (List Int))) := (impl_vertexOf.f k l0_0 l0_1).bind fun t330 => ((impl_edgesOf.f k l0_0 l0_1).bind fun t336 => (impl_conjAt.l0 k l1 a2 l3 t330 (([] : List (List Int))) t336 (t336.length : Int) 0 l0_0 l0_1))
set_option maxHeartbeats 8000000 in
set_option maxRecDepth 100000 in
theorem impl_conjAt.calls (k : Nat) (A0_0 : Option Addr) (c0_0 : Nat) (l0_0 : List Int) (A0_1 : Option Addr) (c0_1 : Nat) (l0_1 : List Int) (A1 : Option Addr) (c1 : Nat) (l1 : List (List Int)) (a2 : Int) (A3 : Option Addr) (c3 : Nat) (l3 : List Int) (r : List (List Int)) (w : World) (hr0_0 : Kd.C (Kd.int .i64) w A0_0 l0_0.length l0_0) (hc0_0 : l0_0.length ≤ c0_0) (hr0_1 : Kd.C (Kd.int .i64) w A0_1 l0_1.length l0_1) (hc0_1 : l0_1.length ≤ c0_1) (hr1 : Kd.C (Kd.slice 3 (Kd.int .i64)) w A1 l1.length l1) (hc1 : l1.length ≤ c1) (hr3 : Kd.C (Kd.int .i64) w A3 l3.length l3) (hc3 : l3.length ≤ c3) (h : impl_conjAt.f k l0_0 l0_1 l1 a2 l3 = some r) :
    Calls Try.prog 83 #[.agg #[.slice A0_0 l0_0.length c0_0, .slice A0_1 l0_1.length c0_1], .slice A1 l1.length c1, .int .i64 a2, .slice A3 l3.length c3] w fun e w' => ∃ v0_ : Value, e = .returned (v0_) ∧ Kd.S (Kd.slice 3 (Kd.int .i64)) 22 w' w.heap.size (fun _ => True) v0_ r ∧ Below w.heap.size w w' := by
 have hu29 := Try.underlying29; have HR0_0 := A0_ hr0_0; have HC0_0 := A0_ hc0_0; clear hr0_0 hc0_0; have HR0_1 := A0_ hr0_1; have HC0_1 := A0_ hc0_1; clear hr0_1 hc0_1; have HR1 := A0_ hr1; have HC1 := A0_ hc1; clear hr1 hc1; have HR3 := A0_ hr3; have HC3 := A0_ hc3; clear hr3 hc3
 have HB := A0_ (Below.refl w.heap.size w)
 have H : ((impl_vertexOf.f k l0_0 l0_1).bind fun t330 => ((impl_edgesOf.f k l0_0 l0_1).bind fun t336 => (impl_conjAt.l0 k l1 a2 l3 t330 (([] : List (List Int))) t336 (t336.length : Int) 0 l0_0 l0_1))) = some r := h
 clear h; obtain ⟨t330, A5, H⟩ := zbind H
 obtain ⟨y333, hy333⟩ : ∃ y_ : List (List Int), y_ = (([] : List (List Int))) := ⟨_, rfl⟩
 replace H : ((impl_edgesOf.f k l0_0 l0_1).bind fun t336 => (impl_conjAt.l0 k l1 a2 l3 t330 y333 t336 (t336.length : Int) 0 l0_0 l0_1)) = some r := zH hy333 H
 have Ny333 := A0_ hy333; clear hy333; obtain ⟨t336, A6, H⟩ := zbind H; have H' := A0_ H; clear H
 go_enter Try.func83, Try.ntmps83
 go_wp2_with (first | ((with_reducible refine gD (N := 4) rfl ?_); refine zX (N := 4) (cs := #[.slice A0_0 l0_0.length c0_0, .slice A0_1 l0_1.length c0_1]) (t := 29) ?_; intro gb329 hg w7 hbox hb; have BK329 := A0_ (hbox); have GW329 := zG hg HB; have GE329 := zG hg HB; replace HB := zB HB hb; clear hb hbox hg; have hcz8_0 := zc0 BK329; have hcz8_1 := zc1 BK329; have hfz8_0 := kF BK329.out 0; have hfz8_1 := kF BK329.out 1) | ((with_reducible refine gC (f := 84) rfl ?_); refine zJ (some 15) Try.func84 #[.agg #[.slice A0_0 l0_0.length c0_0, .slice A0_1 l0_1.length c0_1]] ?_; (with_reducible refine (impl_vertexOf.calls k _ _ l0_0 _ _ l0_1 t330 _ ?side1 ?side2 ?side3 ?side4 A5.out).mono ?_); (case side1 => exact zC HR0_0 HB); (case side2 => exact HC0_0.out); (case side3 => exact zC HR0_1 HB); (case side4 => exact HC0_1.out); rintro e w9 ⟨v331, rfl, ho0, hb⟩; refine ⟨_, rfl, ?_⟩; have HO332 := A0_ (rL ho0 (bZ (zB_ HB))); replace BK329 := zK BK329 hb; replace HB := zB HB hb; (try clear hb); (try clear ho0)) | ((with_reducible refine gD (N := 16) rfl ?_); refine Kd.S_lit (Kd.slice 3 (Kd.int .i64)) _ 22 ?hg (N := 16) ?hd (xs := ([] : List (List Int))) (inner := []) (ok := fun _ => True) (okp := fun _ => True) ?hr ?hp (fun _ hk => hk) trivial (Below.refl _ _) (Nat.le_refl _) (by simp) ?_; (case hd => rfl); (case hg => rfl); (case hr => first | (go_simp; done) | (go_simp; rfl)); (case hp => exact (Reps.none _ _)); intro v334 w10 ho11 hb hg_ hnew_; clear hg_ hnew_; (first | rw [← Ny333.out] at ho11 | (simp only [Int.reduceToNat] at ho11; rw [← Ny333.out] at ho11)); have HO335 := A0_ (Kd.S_lower (Kd.S_new' ho11 (rX (zR_ HO332))) (bZ (zB_ HB))); replace HO332 := zR HO332 hb; replace BK329 := zK BK329 hb; replace HB := zB HB hb; clear hb ho11; have hcz12_0 := zc0 BK329; have hcz12_1 := zc1 BK329; have hfz12_0 := kF BK329.out 0; have hfz12_1 := kF BK329.out 1) | ((with_reducible refine gC (f := 105) rfl ?_); refine zJ (some 18) Try.func105 #[.agg #[.slice A0_0 l0_0.length c0_0, .slice A0_1 l0_1.length c0_1]] ?_; (with_reducible refine (impl_edgesOf.calls k _ _ l0_0 _ _ l0_1 t336 _ ?side1 ?side2 ?side3 ?side4 A6.out).mono ?_); (case side1 => exact zC HR0_0 HB); (case side2 => exact HC0_0.out); (case side3 => exact zC HR0_1 HB); (case side4 => exact HC0_1.out); rintro e w13 ⟨v337, rfl, ho0, hb⟩; refine ⟨_, rfl, ?_⟩; replace HO335 := A0_ (Kd.S_elder' (zS_ HO335) (Kd.R_base ho0) hb); have HO338 := A0_ (rL (Kd.R_new' ho0 (rX (zR_ HO332))) (bZ (zB_ HB))); replace HO332 := A0_ (Kd.R_elder' (zR_ HO332) (Kd.R_base ho0) hb); replace BK329 := zK BK329 hb; replace HB := zB HB hb; (try clear hb); (try clear ho0); obtain ⟨Ao14, co14, eo14⟩ := rS HO338.out; subst eo14))
 go_loopg [10, 20] k (fun kq v10 v20 w' => ∃ (x10_1 : List (List Int)) (x20_1 : Int), v20 = .int .i64 x20_1 ∧ Aside0 (impl_conjAt.l0 kq l1 a2 l3 t330 x10_1 t336 (t336.length : Int) x20_1 l0_0 l0_1 = some r) ∧ Aside0 (kq ≤ k) ∧ Aside0 (Kd.R (Kd.int .i64) 3 w' w.heap.size (fun k_ => some k_ ≠ ((.slice Ao14 t336.length co14) : Value).ownBlock) v331 t330) ∧ Aside0 (Kd.S (Kd.slice 3 (Kd.int .i64)) 22 w' w.heap.size (fun k_ => some k_ ≠ (v331 : Value).ownBlock ∧ some k_ ≠ ((.slice Ao14 t336.length co14) : Value).ownBlock) v10 x10_1) ∧ Aside0 (Kd.R (Kd.int .i64) 3 w' w.heap.size (fun k_ => some k_ ≠ (v331 : Value).ownBlock) (.slice Ao14 t336.length co14) t336) ∧ Aside0 (w'.heap[gb329]? = some (.cells #[(.slice A0_0 l0_0.length c0_0), (.slice A0_1 l0_1.length c0_1)] 29 (0, 0))) ∧ Aside0 (Below w.heap.size w w'))
 case atStart => exact ⟨(y333), (0), zt, H', ⟨Nat.le_refl _⟩, ⟨zmR HO332 (fun _ hk => hk.2)⟩, ⟨zmS HO335 (fun _ hk => ⟨hk.1.2, hk.2⟩)⟩, ⟨zmR HO338 (fun _ hk => hk.2)⟩, ⟨zK_ BK329⟩, ⟨zB_ HB⟩⟩
 case round =>
  clear H'; (try clear c1); (try clear p2); (try clear c3); (try clear c8); (try clear c10); (try clear hcz12_0); (try clear hcz12_1); (try clear hcz8_0); (try clear hcz8_1); (try clear hfz12_0); (try clear hfz12_1); (try clear hfz8_0); (try clear hfz8_1); obtain ⟨x10_1, x20_1, rfl, HA, HK1, HO_9, HO_10, HO_18, BK329, HB⟩ := hrel
  cases gk with
  | zero => exact absurd HA.out (by simp [impl_conjAt.l0])
  | succ k1 =>
   have H := HA.out; clear HA; simp only [impl_conjAt.l0] at H
   by_cases c15 : x20_1 < (t336.length : Int)
   ·rw [if_pos c15] at H
    have c15b0 := dT c15; clear c15
    by_cases c16 : 0 ≤ x20_1
    ·rw [if_pos c16] at H
     have c16b0 := dT c16; clear c16
     by_cases c17 : x20_1 < (t336.length : Int)
     ·rw [if_pos c17] at H
      have c17b0 := dT c17; clear c17
      by_cases c18 : x20_1 < (l1.length : Int)
      ·rw [if_pos c18] at H
       have c18b0 := dT c18; clear c18; obtain ⟨t341, A19, H⟩ := zbind H
       by_cases c20 : 0 ≤ (rd t336 x20_1)
       ·rw [if_pos c20] at H
        have c20b0 := dT c20; clear c20
        by_cases c21 : (rd t336 x20_1) < (t330.length : Int)
        ·rw [if_pos c21] at H
         have c21b0 := dT c21; clear c21
         by_cases c22 : (rd t330 (rd t336 x20_1)) = a2
         ·rw [if_pos c22] at H
          have c22b0 : ((rd t330 (rd t336 x20_1)) == a2) = true := beq_iff_eq.mpr c22
          have c22b1 : ((rd t330 (rd t336 x20_1)) != a2) = false := bne_eq_false_iff_eq.mpr c22
          clear c22; obtain ⟨t345, A23, H⟩ := zbind H; obtain ⟨t348, A24, H⟩ := zbind H
          by_cases c25 : (rd t336 x20_1) < (l0_1.length : Int)
          ·rw [if_pos c25] at H
           have c25b0 := dT c25; clear c25
           by_cases c26 : 0 ≤ (rd l0_1 (rd t336 x20_1))
           ·rw [if_pos c26] at H
            have c26b0 := dT c26; clear c26
            by_cases c27 : (rd l0_1 (rd t336 x20_1)) < (t330.length : Int)
            ·rw [if_pos c27] at H
             have c27b0 := dT c27; clear c27
             by_cases c28 : (rd t330 (rd l0_1 (rd t336 x20_1))) = a2
             ·rw [if_pos c28] at H
              have c28b0 : ((rd t330 (rd l0_1 (rd t336 x20_1))) == a2) = true := beq_iff_eq.mpr c28
              have c28b1 : ((rd t330 (rd l0_1 (rd t336 x20_1))) != a2) = false := bne_eq_false_iff_eq.mpr c28
              clear c28; obtain ⟨t353, A29, H⟩ := zbind H
              by_cases c30 : x10_1.length < 5864062014805
              ·rw [if_pos c30] at H
               have LMc30 := A0_ c30; clear c30
               obtain ⟨y356, hy356⟩ : ∃ y_ : List (List Int), y_ = (x10_1 ++ [t353]) := ⟨_, rfl⟩
               replace H : (impl_conjAt.l0 k1 l1 a2 l3 t330 y356 t336 (t336.length : Int) (wrap64 (x20_1 + 1)) l0_0 l0_1) = some r := zH hy356 H
               have Ny356 := A0_ hy356; clear hy356; have H' := A0_ H; clear H
               have p339 : 0 ≤ (x20_1 : Int) := zd
               have q339 : x20_1 < (t336.length : Int) := zd
               obtain ⟨ad339, e339, hx339_0⟩ := tI (rR HO_18.out).2.2 x20_1 p339 q339
               cases e339
               replace p339 := eq_true p339; replace q339 := eq_true q339
               have p340 : 0 ≤ (x20_1 : Int) := zd
               have q340 : x20_1 < (l1.length : Int) := zd
               obtain ⟨ad340, A340_0, c340_0, e340, hx340_0, hl340_0, hi340_0⟩ := at_L1 HR1.out x20_1 p340 q340
               cases e340
               try replace hx340_0 := (HB.out.cell (wL w _ hx340_0)).trans hx340_0
               have HR340_0 := A0_ hi340_0; have HC340_0 := A0_ hl340_0; clear hi340_0 hl340_0; replace p340 := eq_true p340; replace q340 := eq_true q340
               go_wp2_with (first | ((with_reducible refine gC (f := 102) rfl ?_); refine zJ (some 29) Try.func102 #[.slice A340_0 (rd_L1 l1 x20_1).length c340_0] ?_; (with_reducible refine (slices_Clone_int_int.calls _ _ (rd_L1 l1 x20_1) t341 _ ?side1 ?side2 A19.out).mono ?_); (case side1 => exact zC HR340_0 HB); (case side2 => exact HC340_0.out); rintro e w31 ⟨v342, rfl, ho0, hb⟩; refine ⟨_, rfl, ?_⟩; replace HO_10 := A0_ (Kd.S_elder' (zS_ HO_10) (Kd.R_base ho0) hb); have HO343 := A0_ (rL (Kd.R_new' (Kd.R_new' ho0 (rX (zR_ HO_9))) (rX (zR_ HO_18))) (bZ (zB_ HB))); replace HO_9 := A0_ (Kd.R_elder' (zR_ HO_9) (Kd.R_base ho0) hb); replace HO_18 := A0_ (Kd.R_elder' (zR_ HO_18) (Kd.R_base ho0) hb); replace BK329 := zK BK329 hb; replace HB := zB HB hb; (try clear hb); (try clear ho0); obtain ⟨Ao32, co32, eo32⟩ := rS HO_9.out; subst eo32; have p344 : 0 ≤ ((rd t336 x20_1) : Int) := zd; have q344 : (rd t336 x20_1) < (t330.length : Int) := zd; obtain ⟨ad344, e344, hx344_0⟩ := tI (rR HO_9.out).2.2 (rd t336 x20_1) p344 q344; cases e344; replace p344 := eq_true p344; replace q344 := eq_true q344) | ((with_reducible refine gC (f := 89) rfl ?_); refine zJ (some 37) Try.func89 #[.slice A3 l3.length c3] ?_; (with_reducible refine (impl_back.calls k1 _ _ l3 t345 _ ?side1 ?side2 A23.out).mono ?_); (case side1 => exact zC HR3 HB); (case side2 => exact HC3.out); rintro e w33 ⟨v346, rfl, ho0, hb⟩; refine ⟨_, rfl, ?_⟩; replace HO_10 := A0_ (Kd.S_elder' (zS_ HO_10) (Kd.R_base ho0) hb); have HO347 := A0_ (rL (Kd.R_new' (Kd.R_new' (Kd.R_new' ho0 (rX (zR_ HO_9))) (rX (zR_ HO_18))) (rX (zR_ HO343))) (bZ (zB_ HB))); replace HO_9 := A0_ (Kd.R_elder' (zR_ HO_9) (Kd.R_base ho0) hb); replace HO_18 := A0_ (Kd.R_elder' (zR_ HO_18) (Kd.R_base ho0) hb); replace HO343 := A0_ (Kd.R_elder' (zR_ HO343) (Kd.R_base ho0) hb); replace BK329 := zK BK329 hb; replace HB := zB HB hb; (try clear hb); (try clear ho0); obtain ⟨Ao34, co34, eo34⟩ := rS HO347.out; subst eo34; obtain ⟨Ao35, co35, eo35⟩ := rS HO343.out; subst eo35) | ((with_reducible refine gC (f := 71) rfl ?_); refine zJ (some 39) Try.func71 #[.slice Ao34 t345.length co34, .slice Ao35 t341.length co35] ?_; (with_reducible refine (impl_mul.calls k1 _ _ t345 _ _ t341 t348 _ ?side1 ?side2 ?side3 ?side4 A24.out).mono ?_); (case side1 => exact zD HO347); (case side2 => exact (rR HO347.out).2.1); (case side3 => exact zD HO343); (case side4 => exact (rR HO343.out).2.1); rintro e w36 ⟨v349, rfl, ho0, hb⟩; refine ⟨_, rfl, ?_⟩; replace HO_10 := A0_ (Kd.S_elder' (zS_ HO_10) (Kd.R_base ho0) hb); have HO350 := A0_ (rL (Kd.R_new' (Kd.R_new' (Kd.R_new' (Kd.R_new' ho0 (rX (zR_ HO_9))) (rX (zR_ HO_18))) (rX (zR_ HO343))) (rX (zR_ HO347))) (bZ (zB_ HB))); replace HO_9 := A0_ (Kd.R_elder' (zR_ HO_9) (Kd.R_base ho0) hb); replace HO_18 := A0_ (Kd.R_elder' (zR_ HO_18) (Kd.R_base ho0) hb); replace HO343 := A0_ (Kd.R_elder' (zR_ HO343) (Kd.R_base ho0) hb); replace HO347 := A0_ (Kd.R_elder' (zR_ HO347) (Kd.R_base ho0) hb); replace BK329 := zK BK329 hb; replace HB := zB HB hb; (try clear hb); (try clear ho0); have hcz37_0 := zc0 BK329; have hcz37_1 := zc1 BK329; have hfz37_0 := kF BK329.out 0; have hfz37_1 := kF BK329.out 1; have p351 : 0 ≤ ((rd t336 x20_1) : Int) := zd; have q351 : (rd t336 x20_1) < (l0_1.length : Int) := zd; obtain ⟨ad351, e351, hx351_0⟩ := tI HR0_1.out (rd t336 x20_1) p351 q351; cases e351; try replace hx351_0 := (HB.out.cell (wL w _ hx351_0)).trans hx351_0; replace p351 := eq_true p351; replace q351 := eq_true q351; have p352 : 0 ≤ ((rd l0_1 (rd t336 x20_1)) : Int) := zd; have q352 : (rd l0_1 (rd t336 x20_1)) < (t330.length : Int) := zd; obtain ⟨ad352, e352, hx352_0⟩ := tI (rR HO_9.out).2.2 (rd l0_1 (rd t336 x20_1)) p352 q352; obtain rfl : ad344 = ad352 := (by injection e352); replace p352 := eq_true p352; replace q352 := eq_true q352; obtain ⟨Ao38, co38, eo38⟩ := rS HO350.out; subst eo38) | ((with_reducible refine gC (f := 71) rfl ?_); refine zJ (some 52) Try.func71 #[.slice Ao38 t348.length co38, .slice A3 l3.length c3] ?_; (with_reducible refine (impl_mul.calls k1 _ _ t348 _ _ l3 t353 _ ?side1 ?side2 ?side3 ?side4 A29.out).mono ?_); (case side1 => exact zD HO350); (case side2 => exact (rR HO350.out).2.1); (case side3 => exact zC HR3 HB); (case side4 => exact HC3.out); rintro e w39 ⟨v354, rfl, ho0, hb⟩; refine ⟨_, rfl, ?_⟩; replace HO_10 := A0_ (Kd.S_elder' (zS_ HO_10) (Kd.R_base ho0) hb); have HO355 := A0_ (rL (Kd.R_new' (Kd.R_new' (Kd.R_new' (Kd.R_new' (Kd.R_new' ho0 (rX (zR_ HO_9))) (rX (zR_ HO_18))) (rX (zR_ HO343))) (rX (zR_ HO347))) (rX (zR_ HO350))) (bZ (zB_ HB))); replace HO_9 := A0_ (Kd.R_elder' (zR_ HO_9) (Kd.R_base ho0) hb); replace HO_18 := A0_ (Kd.R_elder' (zR_ HO_18) (Kd.R_base ho0) hb); replace HO343 := A0_ (Kd.R_elder' (zR_ HO343) (Kd.R_base ho0) hb); replace HO347 := A0_ (Kd.R_elder' (zR_ HO347) (Kd.R_base ho0) hb); replace HO350 := A0_ (Kd.R_elder' (zR_ HO350) (Kd.R_base ho0) hb); replace BK329 := zK BK329 hb; replace HB := zB HB hb; (try clear hb); (try clear ho0); obtain ⟨Ao41, co41, eo41⟩ := rS HO355.out; subst eo41) | ((with_reducible refine gB (b := .append) (xs := #[.tmp 53, .tmp 55]) rfl ?_); at_builtin; refine Kd.S_append (Kd.slice 3 (Kd.int .i64)) (w0 := w) w.heap.size rfl (.tmp 53) (.tmp 55) 25 22 (.slice none 0 0) 24 rfl Try.underlying25 info22 rfl (by decide) (by omega) u10 x10_1 t353 [.slice Ao41 t353.length co41] (fun k_ => some k_ ≠ (.slice (some ad344) t330.length co32 : Value).ownBlock ∧ some k_ ≠ (.slice (some ad339) t336.length co14 : Value).ownBlock ∧ some k_ ≠ (.slice Ao35 t341.length co35 : Value).ownBlock ∧ some k_ ≠ (.slice Ao34 t345.length co34 : Value).ownBlock ∧ some k_ ≠ (.slice Ao38 t348.length co38 : Value).ownBlock) (fun k_ => some k_ = (.slice Ao41 t353.length co41 : Value).ownBlock) rfl rfl ?aP (fun k_ hk_ => ((rM (ok' := fun k_ => ((fun k_ => some k_ ≠ (.slice (some ad344) t330.length co32 : Value).ownBlock ∧ some k_ ≠ (.slice (some ad339) t336.length co14 : Value).ownBlock ∧ some k_ ≠ (.slice Ao35 t341.length co35 : Value).ownBlock ∧ some k_ ≠ (.slice Ao34 t345.length co34 : Value).ownBlock ∧ some k_ ≠ (.slice Ao38 t348.length co38 : Value).ownBlock)) k_ ∧ some k_ ≠ (u10 : Value).ownBlock) (Kd.R_apart' (HO355.out) (Kd.S_typed HO_10.out) (by decide)) (fun k_ hk => ⟨⟨hk.1.1.1.1.1.2, ⟨hk.1.1.1.1.2, ⟨hk.1.1.1.2, ⟨hk.1.1.2, hk.1.2⟩⟩⟩⟩, hk.2⟩))).1 k_ hk_.symm) ?aF ?aO ?aB ?aS ?aL ?_; (case aP => exact Kd.M_row (rM (Kd.R_tight rfl (rM (ok' := fun k_ => ((fun k_ => some k_ ≠ (.slice (some ad344) t330.length co32 : Value).ownBlock ∧ some k_ ≠ (.slice (some ad339) t336.length co14 : Value).ownBlock ∧ some k_ ≠ (.slice Ao35 t341.length co35 : Value).ownBlock ∧ some k_ ≠ (.slice Ao34 t345.length co34 : Value).ownBlock ∧ some k_ ≠ (.slice Ao38 t348.length co38 : Value).ownBlock)) k_ ∧ some k_ ≠ (u10 : Value).ownBlock) (Kd.R_apart' (HO355.out) (Kd.S_typed HO_10.out) (by decide)) (fun k_ hk => ⟨⟨hk.1.1.1.1.1.2, ⟨hk.1.1.1.1.2, ⟨hk.1.1.1.2, ⟨hk.1.1.2, hk.1.2⟩⟩⟩⟩, hk.2⟩))) (fun _ h_ => h_))); (case aB => exact (zB_ HB)); (case aF => exact (fun k_ hk => ⟨Kd.fresh' (rX (zR_ HO_9)) k_ hk, Kd.fresh' (rX (zR_ HO_18)) k_ hk, Kd.fresh' (rX (zR_ HO343)) k_ hk, Kd.fresh' (rX (zR_ HO347)) k_ hk, Kd.fresh' (rX (zR_ HO350)) k_ hk⟩)); (case aO => exact (zmS HO_10 (fun k_ hk => ⟨⟨hk.1.1.1.1.1, ⟨hk.1.1.1.1.2, ⟨hk.1.1.1.2, ⟨hk.1.1.2, hk.1.2⟩⟩⟩⟩, fun e_ => hk.2 e_⟩))); (case aS => exact (bZ (zB_ HB))); (case aL => have := LMc30.out; omega); intro v357 w40 ho hb hg hat; rw [← Ny356.out] at ho; replace HO_9 := A0_ (Kd.R_over' (zR_ HO_9) (Kd.S_typed (zS_ HO_10)) (by decide) hg); replace HO_18 := A0_ (Kd.R_over' (zR_ HO_18) (Kd.S_typed (zS_ HO_10)) (by decide) hg); replace BK329 := A0_ (blk_grown (g := gb329) (o := .cells #[.slice A0_0 l0_0.length c0_0, .slice (some ad351) l0_1.length c0_1] 29 (0, 0)) (zK_ BK329) hg (Kd.S_ne HO_10.out BK329.out (by decide))); replace HO343 := A0_ (Kd.R_over' (zR_ HO343) (Kd.S_typed (zS_ HO_10)) (by decide) hg); replace HO347 := A0_ (Kd.R_over' (zR_ HO347) (Kd.S_typed (zS_ HO_10)) (by decide) hg); replace HO350 := A0_ (Kd.R_over' (zR_ HO350) (Kd.S_typed (zS_ HO_10)) (by decide) hg); replace HB := A0_ (hb); have HO358 := A0_ (ho); clear HO_10 HO355 ho hb hg hat))
               go_roundg k1
               case measure => have := HK1.out; omega
               case rel => exact ⟨(y356), (wrap64 (x20_1 + 1)), zt, H', ⟨by have := HK1.out; omega⟩, ⟨zmR HO_9 (fun _ hk => hk.1.1.1.1)⟩, ⟨zmS HO358 (fun _ hk => ⟨hk.1, hk.2.1⟩)⟩, ⟨zmR HO_18 (fun _ hk => hk.1.1.1.1)⟩, ⟨zK_ BK329⟩, ⟨zB_ HB⟩⟩
              rw [if_neg c30] at H
              exact absurd H (by simp)
             rw [if_neg c28] at H
             have c28b0 : ((rd t330 (rd l0_1 (rd t336 x20_1))) == a2) = false := beq_eq_false_iff_ne.mpr c28
             have c28b1 : ((rd t330 (rd l0_1 (rd t336 x20_1))) != a2) = true := bne_iff_ne.mpr c28
             by_cases c42 : x10_1.length < 5864062014805
             ·rw [if_pos c42] at H
              have LMc42 := A0_ c42; clear c42
              obtain ⟨y359, hy359⟩ : ∃ y_ : List (List Int), y_ = (x10_1 ++ [t348]) := ⟨_, rfl⟩
              replace H : (impl_conjAt.l0 k1 l1 a2 l3 t330 y359 t336 (t336.length : Int) (wrap64 (x20_1 + 1)) l0_0 l0_1) = some r := zH hy359 H
              have Ny359 := A0_ hy359; clear hy359; have H' := A0_ H; clear H
              have p339 : 0 ≤ (x20_1 : Int) := zd
              have q339 : x20_1 < (t336.length : Int) := zd
              obtain ⟨ad339, e339, hx339_0⟩ := tI (rR HO_18.out).2.2 x20_1 p339 q339
              cases e339
              replace p339 := eq_true p339; replace q339 := eq_true q339
              have p340 : 0 ≤ (x20_1 : Int) := zd
              have q340 : x20_1 < (l1.length : Int) := zd
              obtain ⟨ad340, A340_0, c340_0, e340, hx340_0, hl340_0, hi340_0⟩ := at_L1 HR1.out x20_1 p340 q340
              cases e340
              try replace hx340_0 := (HB.out.cell (wL w _ hx340_0)).trans hx340_0
              have HR340_0 := A0_ hi340_0; have HC340_0 := A0_ hl340_0; clear hi340_0 hl340_0; replace p340 := eq_true p340; replace q340 := eq_true q340
              go_wp2_with (first | ((with_reducible refine gC (f := 102) rfl ?_); refine zJ (some 29) Try.func102 #[.slice A340_0 (rd_L1 l1 x20_1).length c340_0] ?_; (with_reducible refine (slices_Clone_int_int.calls _ _ (rd_L1 l1 x20_1) t341 _ ?side1 ?side2 A19.out).mono ?_); (case side1 => exact zC HR340_0 HB); (case side2 => exact HC340_0.out); rintro e w43 ⟨v342, rfl, ho0, hb⟩; refine ⟨_, rfl, ?_⟩; replace HO_10 := A0_ (Kd.S_elder' (zS_ HO_10) (Kd.R_base ho0) hb); have HO343 := A0_ (rL (Kd.R_new' (Kd.R_new' ho0 (rX (zR_ HO_9))) (rX (zR_ HO_18))) (bZ (zB_ HB))); replace HO_9 := A0_ (Kd.R_elder' (zR_ HO_9) (Kd.R_base ho0) hb); replace HO_18 := A0_ (Kd.R_elder' (zR_ HO_18) (Kd.R_base ho0) hb); replace BK329 := zK BK329 hb; replace HB := zB HB hb; (try clear hb); (try clear ho0); obtain ⟨Ao44, co44, eo44⟩ := rS HO_9.out; subst eo44; have p344 : 0 ≤ ((rd t336 x20_1) : Int) := zd; have q344 : (rd t336 x20_1) < (t330.length : Int) := zd; obtain ⟨ad344, e344, hx344_0⟩ := tI (rR HO_9.out).2.2 (rd t336 x20_1) p344 q344; cases e344; replace p344 := eq_true p344; replace q344 := eq_true q344) | ((with_reducible refine gC (f := 89) rfl ?_); refine zJ (some 37) Try.func89 #[.slice A3 l3.length c3] ?_; (with_reducible refine (impl_back.calls k1 _ _ l3 t345 _ ?side1 ?side2 A23.out).mono ?_); (case side1 => exact zC HR3 HB); (case side2 => exact HC3.out); rintro e w45 ⟨v346, rfl, ho0, hb⟩; refine ⟨_, rfl, ?_⟩; replace HO_10 := A0_ (Kd.S_elder' (zS_ HO_10) (Kd.R_base ho0) hb); have HO347 := A0_ (rL (Kd.R_new' (Kd.R_new' (Kd.R_new' ho0 (rX (zR_ HO_9))) (rX (zR_ HO_18))) (rX (zR_ HO343))) (bZ (zB_ HB))); replace HO_9 := A0_ (Kd.R_elder' (zR_ HO_9) (Kd.R_base ho0) hb); replace HO_18 := A0_ (Kd.R_elder' (zR_ HO_18) (Kd.R_base ho0) hb); replace HO343 := A0_ (Kd.R_elder' (zR_ HO343) (Kd.R_base ho0) hb); replace BK329 := zK BK329 hb; replace HB := zB HB hb; (try clear hb); (try clear ho0); obtain ⟨Ao46, co46, eo46⟩ := rS HO347.out; subst eo46; obtain ⟨Ao47, co47, eo47⟩ := rS HO343.out; subst eo47) | ((with_reducible refine gC (f := 71) rfl ?_); refine zJ (some 39) Try.func71 #[.slice Ao46 t345.length co46, .slice Ao47 t341.length co47] ?_; (with_reducible refine (impl_mul.calls k1 _ _ t345 _ _ t341 t348 _ ?side1 ?side2 ?side3 ?side4 A24.out).mono ?_); (case side1 => exact zD HO347); (case side2 => exact (rR HO347.out).2.1); (case side3 => exact zD HO343); (case side4 => exact (rR HO343.out).2.1); rintro e w48 ⟨v349, rfl, ho0, hb⟩; refine ⟨_, rfl, ?_⟩; replace HO_10 := A0_ (Kd.S_elder' (zS_ HO_10) (Kd.R_base ho0) hb); have HO350 := A0_ (rL (Kd.R_new' (Kd.R_new' (Kd.R_new' (Kd.R_new' ho0 (rX (zR_ HO_9))) (rX (zR_ HO_18))) (rX (zR_ HO343))) (rX (zR_ HO347))) (bZ (zB_ HB))); replace HO_9 := A0_ (Kd.R_elder' (zR_ HO_9) (Kd.R_base ho0) hb); replace HO_18 := A0_ (Kd.R_elder' (zR_ HO_18) (Kd.R_base ho0) hb); replace HO343 := A0_ (Kd.R_elder' (zR_ HO343) (Kd.R_base ho0) hb); replace HO347 := A0_ (Kd.R_elder' (zR_ HO347) (Kd.R_base ho0) hb); replace BK329 := zK BK329 hb; replace HB := zB HB hb; (try clear hb); (try clear ho0); have hcz49_0 := zc0 BK329; have hcz49_1 := zc1 BK329; have hfz49_0 := kF BK329.out 0; have hfz49_1 := kF BK329.out 1; have p351 : 0 ≤ ((rd t336 x20_1) : Int) := zd; have q351 : (rd t336 x20_1) < (l0_1.length : Int) := zd; obtain ⟨ad351, e351, hx351_0⟩ := tI HR0_1.out (rd t336 x20_1) p351 q351; cases e351; try replace hx351_0 := (HB.out.cell (wL w _ hx351_0)).trans hx351_0; replace p351 := eq_true p351; replace q351 := eq_true q351; have p352 : 0 ≤ ((rd l0_1 (rd t336 x20_1)) : Int) := zd; have q352 : (rd l0_1 (rd t336 x20_1)) < (t330.length : Int) := zd; obtain ⟨ad352, e352, hx352_0⟩ := tI (rR HO_9.out).2.2 (rd l0_1 (rd t336 x20_1)) p352 q352; obtain rfl : ad344 = ad352 := (by injection e352); replace p352 := eq_true p352; replace q352 := eq_true q352; obtain ⟨Ao51, co51, eo51⟩ := rS HO350.out; subst eo51) | ((with_reducible refine gB (b := .append) (xs := #[.tmp 53, .tmp 55]) rfl ?_); at_builtin; refine Kd.S_append (Kd.slice 3 (Kd.int .i64)) (w0 := w) w.heap.size rfl (.tmp 53) (.tmp 55) 25 22 (.slice none 0 0) 24 rfl Try.underlying25 info22 rfl (by decide) (by omega) u10 x10_1 t348 [.slice Ao51 t348.length co51] (fun k_ => some k_ ≠ (.slice (some ad344) t330.length co44 : Value).ownBlock ∧ some k_ ≠ (.slice (some ad339) t336.length co14 : Value).ownBlock ∧ some k_ ≠ (.slice Ao47 t341.length co47 : Value).ownBlock ∧ some k_ ≠ (.slice Ao46 t345.length co46 : Value).ownBlock) (fun k_ => some k_ = (.slice Ao51 t348.length co51 : Value).ownBlock) rfl rfl ?aP (fun k_ hk_ => ((rM (ok' := fun k_ => ((fun k_ => some k_ ≠ (.slice (some ad344) t330.length co44 : Value).ownBlock ∧ some k_ ≠ (.slice (some ad339) t336.length co14 : Value).ownBlock ∧ some k_ ≠ (.slice Ao47 t341.length co47 : Value).ownBlock ∧ some k_ ≠ (.slice Ao46 t345.length co46 : Value).ownBlock)) k_ ∧ some k_ ≠ (u10 : Value).ownBlock) (Kd.R_apart' (HO350.out) (Kd.S_typed HO_10.out) (by decide)) (fun k_ hk => ⟨⟨hk.1.1.1.1.2, ⟨hk.1.1.1.2, ⟨hk.1.1.2, hk.1.2⟩⟩⟩, hk.2⟩))).1 k_ hk_.symm) ?aF ?aO ?aB ?aS ?aL ?_; (case aP => exact Kd.M_row (rM (Kd.R_tight rfl (rM (ok' := fun k_ => ((fun k_ => some k_ ≠ (.slice (some ad344) t330.length co44 : Value).ownBlock ∧ some k_ ≠ (.slice (some ad339) t336.length co14 : Value).ownBlock ∧ some k_ ≠ (.slice Ao47 t341.length co47 : Value).ownBlock ∧ some k_ ≠ (.slice Ao46 t345.length co46 : Value).ownBlock)) k_ ∧ some k_ ≠ (u10 : Value).ownBlock) (Kd.R_apart' (HO350.out) (Kd.S_typed HO_10.out) (by decide)) (fun k_ hk => ⟨⟨hk.1.1.1.1.2, ⟨hk.1.1.1.2, ⟨hk.1.1.2, hk.1.2⟩⟩⟩, hk.2⟩))) (fun _ h_ => h_))); (case aB => exact (zB_ HB)); (case aF => exact (fun k_ hk => ⟨Kd.fresh' (rX (zR_ HO_9)) k_ hk, Kd.fresh' (rX (zR_ HO_18)) k_ hk, Kd.fresh' (rX (zR_ HO343)) k_ hk, Kd.fresh' (rX (zR_ HO347)) k_ hk⟩)); (case aO => exact (zmS HO_10 (fun k_ hk => ⟨⟨hk.1.1.1.1, ⟨hk.1.1.1.2, ⟨hk.1.1.2, hk.1.2⟩⟩⟩, fun e_ => hk.2 e_⟩))); (case aS => exact (bZ (zB_ HB))); (case aL => have := LMc42.out; omega); intro v360 w50 ho hb hg hat; rw [← Ny359.out] at ho; replace HO_9 := A0_ (Kd.R_over' (zR_ HO_9) (Kd.S_typed (zS_ HO_10)) (by decide) hg); replace HO_18 := A0_ (Kd.R_over' (zR_ HO_18) (Kd.S_typed (zS_ HO_10)) (by decide) hg); replace BK329 := A0_ (blk_grown (g := gb329) (o := .cells #[.slice A0_0 l0_0.length c0_0, .slice (some ad351) l0_1.length c0_1] 29 (0, 0)) (zK_ BK329) hg (Kd.S_ne HO_10.out BK329.out (by decide))); replace HO343 := A0_ (Kd.R_over' (zR_ HO343) (Kd.S_typed (zS_ HO_10)) (by decide) hg); replace HO347 := A0_ (Kd.R_over' (zR_ HO347) (Kd.S_typed (zS_ HO_10)) (by decide) hg); replace HB := A0_ (hb); have HO361 := A0_ (ho); clear HO_10 HO350 ho hb hg hat))
              go_roundg k1
              case measure => have := HK1.out; omega
              case rel => exact ⟨(y359), (wrap64 (x20_1 + 1)), zt, H', ⟨by have := HK1.out; omega⟩, ⟨zmR HO_9 (fun _ hk => hk.1.1.1)⟩, ⟨zmS HO361 (fun _ hk => ⟨hk.1, hk.2.1⟩)⟩, ⟨zmR HO_18 (fun _ hk => hk.1.1.1)⟩, ⟨zK_ BK329⟩, ⟨zB_ HB⟩⟩
             rw [if_neg c42] at H
             exact absurd H (by simp)
            rw [if_neg c27] at H
            exact absurd H (by simp)
           rw [if_neg c26] at H
           exact absurd H (by simp)
          rw [if_neg c25] at H
          exact absurd H (by simp)
         rw [if_neg c22] at H
         have c22b0 : ((rd t330 (rd t336 x20_1)) == a2) = false := beq_eq_false_iff_ne.mpr c22
         have c22b1 : ((rd t330 (rd t336 x20_1)) != a2) = true := bne_iff_ne.mpr c22
         by_cases c52 : (rd t336 x20_1) < (l0_1.length : Int)
         ·rw [if_pos c52] at H
          have c52b0 := dT c52; clear c52
          by_cases c53 : 0 ≤ (rd l0_1 (rd t336 x20_1))
          ·rw [if_pos c53] at H
           have c53b0 := dT c53; clear c53
           by_cases c54 : (rd l0_1 (rd t336 x20_1)) < (t330.length : Int)
           ·rw [if_pos c54] at H
            have c54b0 := dT c54; clear c54
            by_cases c55 : (rd t330 (rd l0_1 (rd t336 x20_1))) = a2
            ·rw [if_pos c55] at H
             have c55b0 : ((rd t330 (rd l0_1 (rd t336 x20_1))) == a2) = true := beq_iff_eq.mpr c55
             have c55b1 : ((rd t330 (rd l0_1 (rd t336 x20_1))) != a2) = false := bne_eq_false_iff_eq.mpr c55
             clear c55; obtain ⟨t364, A56, H⟩ := zbind H
             by_cases c57 : x10_1.length < 5864062014805
             ·rw [if_pos c57] at H
              have LMc57 := A0_ c57; clear c57
              obtain ⟨y367, hy367⟩ : ∃ y_ : List (List Int), y_ = (x10_1 ++ [t364]) := ⟨_, rfl⟩
              replace H : (impl_conjAt.l0 k1 l1 a2 l3 t330 y367 t336 (t336.length : Int) (wrap64 (x20_1 + 1)) l0_0 l0_1) = some r := zH hy367 H
              have Ny367 := A0_ hy367; clear hy367; have H' := A0_ H; clear H
              have p339 : 0 ≤ (x20_1 : Int) := zd
              have q339 : x20_1 < (t336.length : Int) := zd
              obtain ⟨ad339, e339, hx339_0⟩ := tI (rR HO_18.out).2.2 x20_1 p339 q339
              cases e339
              replace p339 := eq_true p339; replace q339 := eq_true q339
              have p340 : 0 ≤ (x20_1 : Int) := zd
              have q340 : x20_1 < (l1.length : Int) := zd
              obtain ⟨ad340, A340_0, c340_0, e340, hx340_0, hl340_0, hi340_0⟩ := at_L1 HR1.out x20_1 p340 q340
              cases e340
              try replace hx340_0 := (HB.out.cell (wL w _ hx340_0)).trans hx340_0
              have HR340_0 := A0_ hi340_0; have HC340_0 := A0_ hl340_0; clear hi340_0 hl340_0; replace p340 := eq_true p340; replace q340 := eq_true q340
              go_wp2_with (first | ((with_reducible refine gC (f := 102) rfl ?_); refine zJ (some 29) Try.func102 #[.slice A340_0 (rd_L1 l1 x20_1).length c340_0] ?_; (with_reducible refine (slices_Clone_int_int.calls _ _ (rd_L1 l1 x20_1) t341 _ ?side1 ?side2 A19.out).mono ?_); (case side1 => exact zC HR340_0 HB); (case side2 => exact HC340_0.out); rintro e w58 ⟨v342, rfl, ho0, hb⟩; refine ⟨_, rfl, ?_⟩; replace HO_10 := A0_ (Kd.S_elder' (zS_ HO_10) (Kd.R_base ho0) hb); have HO343 := A0_ (rL (Kd.R_new' (Kd.R_new' ho0 (rX (zR_ HO_9))) (rX (zR_ HO_18))) (bZ (zB_ HB))); replace HO_9 := A0_ (Kd.R_elder' (zR_ HO_9) (Kd.R_base ho0) hb); replace HO_18 := A0_ (Kd.R_elder' (zR_ HO_18) (Kd.R_base ho0) hb); replace BK329 := zK BK329 hb; replace HB := zB HB hb; (try clear hb); (try clear ho0); obtain ⟨Ao59, co59, eo59⟩ := rS HO_9.out; subst eo59; have p344 : 0 ≤ ((rd t336 x20_1) : Int) := zd; have q344 : (rd t336 x20_1) < (t330.length : Int) := zd; obtain ⟨ad344, e344, hx344_0⟩ := tI (rR HO_9.out).2.2 (rd t336 x20_1) p344 q344; cases e344; replace p344 := eq_true p344; replace q344 := eq_true q344; have hcz60_0 := zc0 BK329; have hcz60_1 := zc1 BK329; have hfz60_0 := kF BK329.out 0; have hfz60_1 := kF BK329.out 1; have p362 : 0 ≤ ((rd t336 x20_1) : Int) := zd; have q362 : (rd t336 x20_1) < (l0_1.length : Int) := zd; obtain ⟨ad362, e362, hx362_0⟩ := tI HR0_1.out (rd t336 x20_1) p362 q362; cases e362; try replace hx362_0 := (HB.out.cell (wL w _ hx362_0)).trans hx362_0; replace p362 := eq_true p362; replace q362 := eq_true q362; have p363 : 0 ≤ ((rd l0_1 (rd t336 x20_1)) : Int) := zd; have q363 : (rd l0_1 (rd t336 x20_1)) < (t330.length : Int) := zd; obtain ⟨ad363, e363, hx363_0⟩ := tI (rR HO_9.out).2.2 (rd l0_1 (rd t336 x20_1)) p363 q363; obtain rfl : ad344 = ad363 := (by injection e363); replace p363 := eq_true p363; replace q363 := eq_true q363; obtain ⟨Ao61, co61, eo61⟩ := rS HO343.out; subst eo61) | ((with_reducible refine gC (f := 71) rfl ?_); refine zJ (some 52) Try.func71 #[.slice Ao61 t341.length co61, .slice A3 l3.length c3] ?_; (with_reducible refine (impl_mul.calls k1 _ _ t341 _ _ l3 t364 _ ?side1 ?side2 ?side3 ?side4 A56.out).mono ?_); (case side1 => exact zD HO343); (case side2 => exact (rR HO343.out).2.1); (case side3 => exact zC HR3 HB); (case side4 => exact HC3.out); rintro e w62 ⟨v365, rfl, ho0, hb⟩; refine ⟨_, rfl, ?_⟩; replace HO_10 := A0_ (Kd.S_elder' (zS_ HO_10) (Kd.R_base ho0) hb); have HO366 := A0_ (rL (Kd.R_new' (Kd.R_new' (Kd.R_new' ho0 (rX (zR_ HO_9))) (rX (zR_ HO_18))) (rX (zR_ HO343))) (bZ (zB_ HB))); replace HO_9 := A0_ (Kd.R_elder' (zR_ HO_9) (Kd.R_base ho0) hb); replace HO_18 := A0_ (Kd.R_elder' (zR_ HO_18) (Kd.R_base ho0) hb); replace HO343 := A0_ (Kd.R_elder' (zR_ HO343) (Kd.R_base ho0) hb); replace BK329 := zK BK329 hb; replace HB := zB HB hb; (try clear hb); (try clear ho0); obtain ⟨Ao64, co64, eo64⟩ := rS HO366.out; subst eo64) | ((with_reducible refine gB (b := .append) (xs := #[.tmp 53, .tmp 55]) rfl ?_); at_builtin; refine Kd.S_append (Kd.slice 3 (Kd.int .i64)) (w0 := w) w.heap.size rfl (.tmp 53) (.tmp 55) 25 22 (.slice none 0 0) 24 rfl Try.underlying25 info22 rfl (by decide) (by omega) u10 x10_1 t364 [.slice Ao64 t364.length co64] (fun k_ => some k_ ≠ (.slice (some ad344) t330.length co59 : Value).ownBlock ∧ some k_ ≠ (.slice (some ad339) t336.length co14 : Value).ownBlock ∧ some k_ ≠ (.slice Ao61 t341.length co61 : Value).ownBlock) (fun k_ => some k_ = (.slice Ao64 t364.length co64 : Value).ownBlock) rfl rfl ?aP (fun k_ hk_ => ((rM (ok' := fun k_ => ((fun k_ => some k_ ≠ (.slice (some ad344) t330.length co59 : Value).ownBlock ∧ some k_ ≠ (.slice (some ad339) t336.length co14 : Value).ownBlock ∧ some k_ ≠ (.slice Ao61 t341.length co61 : Value).ownBlock)) k_ ∧ some k_ ≠ (u10 : Value).ownBlock) (Kd.R_apart' (HO366.out) (Kd.S_typed HO_10.out) (by decide)) (fun k_ hk => ⟨⟨hk.1.1.1.2, ⟨hk.1.1.2, hk.1.2⟩⟩, hk.2⟩))).1 k_ hk_.symm) ?aF ?aO ?aB ?aS ?aL ?_; (case aP => exact Kd.M_row (rM (Kd.R_tight rfl (rM (ok' := fun k_ => ((fun k_ => some k_ ≠ (.slice (some ad344) t330.length co59 : Value).ownBlock ∧ some k_ ≠ (.slice (some ad339) t336.length co14 : Value).ownBlock ∧ some k_ ≠ (.slice Ao61 t341.length co61 : Value).ownBlock)) k_ ∧ some k_ ≠ (u10 : Value).ownBlock) (Kd.R_apart' (HO366.out) (Kd.S_typed HO_10.out) (by decide)) (fun k_ hk => ⟨⟨hk.1.1.1.2, ⟨hk.1.1.2, hk.1.2⟩⟩, hk.2⟩))) (fun _ h_ => h_))); (case aB => exact (zB_ HB)); (case aF => exact (fun k_ hk => ⟨Kd.fresh' (rX (zR_ HO_9)) k_ hk, Kd.fresh' (rX (zR_ HO_18)) k_ hk, Kd.fresh' (rX (zR_ HO343)) k_ hk⟩)); (case aO => exact (zmS HO_10 (fun k_ hk => ⟨⟨hk.1.1.1, ⟨hk.1.1.2, hk.1.2⟩⟩, fun e_ => hk.2 e_⟩))); (case aS => exact (bZ (zB_ HB))); (case aL => have := LMc57.out; omega); intro v368 w63 ho hb hg hat; rw [← Ny367.out] at ho; replace HO_9 := A0_ (Kd.R_over' (zR_ HO_9) (Kd.S_typed (zS_ HO_10)) (by decide) hg); replace HO_18 := A0_ (Kd.R_over' (zR_ HO_18) (Kd.S_typed (zS_ HO_10)) (by decide) hg); replace BK329 := A0_ (blk_grown (g := gb329) (o := .cells #[.slice A0_0 l0_0.length c0_0, .slice (some ad362) l0_1.length c0_1] 29 (0, 0)) (zK_ BK329) hg (Kd.S_ne HO_10.out BK329.out (by decide))); replace HO343 := A0_ (Kd.R_over' (zR_ HO343) (Kd.S_typed (zS_ HO_10)) (by decide) hg); replace HB := A0_ (hb); have HO369 := A0_ (ho); clear HO_10 HO366 ho hb hg hat))
              go_roundg k1
              case measure => have := HK1.out; omega
              case rel => exact ⟨(y367), (wrap64 (x20_1 + 1)), zt, H', ⟨by have := HK1.out; omega⟩, ⟨zmR HO_9 (fun _ hk => hk.1.1)⟩, ⟨zmS HO369 (fun _ hk => ⟨hk.1, hk.2.1⟩)⟩, ⟨zmR HO_18 (fun _ hk => hk.1.1)⟩, ⟨zK_ BK329⟩, ⟨zB_ HB⟩⟩
             rw [if_neg c57] at H
             exact absurd H (by simp)
            rw [if_neg c55] at H
            have c55b0 : ((rd t330 (rd l0_1 (rd t336 x20_1))) == a2) = false := beq_eq_false_iff_ne.mpr c55
            have c55b1 : ((rd t330 (rd l0_1 (rd t336 x20_1))) != a2) = true := bne_iff_ne.mpr c55
            by_cases c65 : x10_1.length < 5864062014805
            ·rw [if_pos c65] at H
             have LMc65 := A0_ c65; clear c65
             obtain ⟨y370, hy370⟩ : ∃ y_ : List (List Int), y_ = (x10_1 ++ [t341]) := ⟨_, rfl⟩
             replace H : (impl_conjAt.l0 k1 l1 a2 l3 t330 y370 t336 (t336.length : Int) (wrap64 (x20_1 + 1)) l0_0 l0_1) = some r := zH hy370 H
             have Ny370 := A0_ hy370; clear hy370; have H' := A0_ H; clear H
             have p339 : 0 ≤ (x20_1 : Int) := zd
             have q339 : x20_1 < (t336.length : Int) := zd
             obtain ⟨ad339, e339, hx339_0⟩ := tI (rR HO_18.out).2.2 x20_1 p339 q339
             cases e339
             replace p339 := eq_true p339; replace q339 := eq_true q339
             have p340 : 0 ≤ (x20_1 : Int) := zd
             have q340 : x20_1 < (l1.length : Int) := zd
             obtain ⟨ad340, A340_0, c340_0, e340, hx340_0, hl340_0, hi340_0⟩ := at_L1 HR1.out x20_1 p340 q340
             cases e340
             try replace hx340_0 := (HB.out.cell (wL w _ hx340_0)).trans hx340_0
             have HR340_0 := A0_ hi340_0; have HC340_0 := A0_ hl340_0; clear hi340_0 hl340_0; replace p340 := eq_true p340; replace q340 := eq_true q340
             go_wp2_with (first | ((with_reducible refine gC (f := 102) rfl ?_); refine zJ (some 29) Try.func102 #[.slice A340_0 (rd_L1 l1 x20_1).length c340_0] ?_; (with_reducible refine (slices_Clone_int_int.calls _ _ (rd_L1 l1 x20_1) t341 _ ?side1 ?side2 A19.out).mono ?_); (case side1 => exact zC HR340_0 HB); (case side2 => exact HC340_0.out); rintro e w66 ⟨v342, rfl, ho0, hb⟩; refine ⟨_, rfl, ?_⟩; replace HO_10 := A0_ (Kd.S_elder' (zS_ HO_10) (Kd.R_base ho0) hb); have HO343 := A0_ (rL (Kd.R_new' (Kd.R_new' ho0 (rX (zR_ HO_9))) (rX (zR_ HO_18))) (bZ (zB_ HB))); replace HO_9 := A0_ (Kd.R_elder' (zR_ HO_9) (Kd.R_base ho0) hb); replace HO_18 := A0_ (Kd.R_elder' (zR_ HO_18) (Kd.R_base ho0) hb); replace BK329 := zK BK329 hb; replace HB := zB HB hb; (try clear hb); (try clear ho0); obtain ⟨Ao67, co67, eo67⟩ := rS HO_9.out; subst eo67; have p344 : 0 ≤ ((rd t336 x20_1) : Int) := zd; have q344 : (rd t336 x20_1) < (t330.length : Int) := zd; obtain ⟨ad344, e344, hx344_0⟩ := tI (rR HO_9.out).2.2 (rd t336 x20_1) p344 q344; cases e344; replace p344 := eq_true p344; replace q344 := eq_true q344; have hcz68_0 := zc0 BK329; have hcz68_1 := zc1 BK329; have hfz68_0 := kF BK329.out 0; have hfz68_1 := kF BK329.out 1; have p362 : 0 ≤ ((rd t336 x20_1) : Int) := zd; have q362 : (rd t336 x20_1) < (l0_1.length : Int) := zd; obtain ⟨ad362, e362, hx362_0⟩ := tI HR0_1.out (rd t336 x20_1) p362 q362; cases e362; try replace hx362_0 := (HB.out.cell (wL w _ hx362_0)).trans hx362_0; replace p362 := eq_true p362; replace q362 := eq_true q362; have p363 : 0 ≤ ((rd l0_1 (rd t336 x20_1)) : Int) := zd; have q363 : (rd l0_1 (rd t336 x20_1)) < (t330.length : Int) := zd; obtain ⟨ad363, e363, hx363_0⟩ := tI (rR HO_9.out).2.2 (rd l0_1 (rd t336 x20_1)) p363 q363; obtain rfl : ad344 = ad363 := (by injection e363); replace p363 := eq_true p363; replace q363 := eq_true q363; obtain ⟨Ao70, co70, eo70⟩ := rS HO343.out; subst eo70) | ((with_reducible refine gB (b := .append) (xs := #[.tmp 53, .tmp 55]) rfl ?_); at_builtin; refine Kd.S_append (Kd.slice 3 (Kd.int .i64)) (w0 := w) w.heap.size rfl (.tmp 53) (.tmp 55) 25 22 (.slice none 0 0) 24 rfl Try.underlying25 info22 rfl (by decide) (by omega) u10 x10_1 t341 [.slice Ao70 t341.length co70] (fun k_ => some k_ ≠ (.slice (some ad344) t330.length co67 : Value).ownBlock ∧ some k_ ≠ (.slice (some ad339) t336.length co14 : Value).ownBlock) (fun k_ => some k_ = (.slice Ao70 t341.length co70 : Value).ownBlock) rfl rfl ?aP (fun k_ hk_ => ((rM (ok' := fun k_ => ((fun k_ => some k_ ≠ (.slice (some ad344) t330.length co67 : Value).ownBlock ∧ some k_ ≠ (.slice (some ad339) t336.length co14 : Value).ownBlock)) k_ ∧ some k_ ≠ (u10 : Value).ownBlock) (Kd.R_apart' (HO343.out) (Kd.S_typed HO_10.out) (by decide)) (fun k_ hk => ⟨⟨hk.1.1.2, hk.1.2⟩, hk.2⟩))).1 k_ hk_.symm) ?aF ?aO ?aB ?aS ?aL ?_; (case aP => exact Kd.M_row (rM (Kd.R_tight rfl (rM (ok' := fun k_ => ((fun k_ => some k_ ≠ (.slice (some ad344) t330.length co67 : Value).ownBlock ∧ some k_ ≠ (.slice (some ad339) t336.length co14 : Value).ownBlock)) k_ ∧ some k_ ≠ (u10 : Value).ownBlock) (Kd.R_apart' (HO343.out) (Kd.S_typed HO_10.out) (by decide)) (fun k_ hk => ⟨⟨hk.1.1.2, hk.1.2⟩, hk.2⟩))) (fun _ h_ => h_))); (case aB => exact (zB_ HB)); (case aF => exact (fun k_ hk => ⟨Kd.fresh' (rX (zR_ HO_9)) k_ hk, Kd.fresh' (rX (zR_ HO_18)) k_ hk⟩)); (case aO => exact (zmS HO_10 (fun k_ hk => ⟨⟨hk.1.1, hk.1.2⟩, fun e_ => hk.2 e_⟩))); (case aS => exact (bZ (zB_ HB))); (case aL => have := LMc65.out; omega); intro v371 w69 ho hb hg hat; rw [← Ny370.out] at ho; replace HO_9 := A0_ (Kd.R_over' (zR_ HO_9) (Kd.S_typed (zS_ HO_10)) (by decide) hg); replace HO_18 := A0_ (Kd.R_over' (zR_ HO_18) (Kd.S_typed (zS_ HO_10)) (by decide) hg); replace BK329 := A0_ (blk_grown (g := gb329) (o := .cells #[.slice A0_0 l0_0.length c0_0, .slice (some ad362) l0_1.length c0_1] 29 (0, 0)) (zK_ BK329) hg (Kd.S_ne HO_10.out BK329.out (by decide))); replace HB := A0_ (hb); have HO372 := A0_ (ho); clear HO_10 HO343 ho hb hg hat))
             go_roundg k1
             case measure => have := HK1.out; omega
             case rel => exact ⟨(y370), (wrap64 (x20_1 + 1)), zt, H', ⟨by have := HK1.out; omega⟩, ⟨zmR HO_9 (fun _ hk => hk.1)⟩, ⟨zS_ HO372⟩, ⟨zmR HO_18 (fun _ hk => hk.1)⟩, ⟨zK_ BK329⟩, ⟨zB_ HB⟩⟩
            rw [if_neg c65] at H
            exact absurd H (by simp)
           rw [if_neg c54] at H
           exact absurd H (by simp)
          rw [if_neg c53] at H
          exact absurd H (by simp)
         rw [if_neg c52] at H
         exact absurd H (by simp)
        rw [if_neg c21] at H
        exact absurd H (by simp)
       rw [if_neg c20] at H
       exact absurd H (by simp)
      rw [if_neg c18] at H
      exact absurd H (by simp)
     rw [if_neg c17] at H
     exact absurd H (by simp)
    rw [if_neg c16] at H
    exact absurd H (by simp)
   rw [if_neg c15] at H; have c15b0 := dF c15; clear c15; obtain rfl := sI H
   go_wp2
   go_ret
   exact ⟨_, by first | rfl | (simp [*] <;> rfl), zmS HO_10 (fun _ hk => trivial), zB_ HB⟩

end Go.Proofs.Ytmcgkckdnelcdaa.PFnTrivial
