-- Made by a program of this session (wip/tools) out of the loaded program; not trusted: Lean checks it.
import Derived.Test.YtmcgkckdnelcdaaPFnExactCoverMapx0
import Derived.Test.YtmcgkckdnelcdaaPFnExactCoverMapx6
namespace Go.Proofs.Ytmcgkckdnelcdaa.PFnExactCoverMap
open Go.RowKit Go.Proofs.YtmcgkckdnelcdaaW.PrintWords Go.Proofs.YtmcgkckdnelcdaaW.PrintLast Go.Proofs.YtmcgkckdnelcdaaW.PrintMore
attribute [local go_sem] max2_int min2_int max_two min_two max_three min_three max_four min_four   -- for this text's walks alone
set_option linter.unusedVariables false
set_option linter.unusedSimpArgs false

/-! ### impl_edgeOf: function 107 -/
def impl_edgeOf.l0 : Nat → List Int → List Int → Int → Int → List Int → List Int → Option (List Int)
  | 0, _, _, _, _, _, _ => none
  | k + 1, x3, x11, x12, x13, x295000, x295001 => if x13 < x12 then (if 0 ≤ x13 then (if x13 < (x11.length : Int) then (if 0 ≤ (rd x11 x13) then (if (rd x11 x13) < (x295001.length : Int) then (if (rd x11 x13) < (x3.length : Int) then (if 0 ≤ (rd x295001 (rd x11 x13)) then (if (rd x295001 (rd x11 x13)) < (x3.length : Int) then (impl_edgeOf.l0 k ((x3.set ((rd x11 x13) : Int).toNat x13).set ((rd x295001 (rd x11 x13)) : Int).toNat x13) x11 x12 (wrap64 (x13 + 1)) x295000 x295001) else (none)) else (none)) else (none)) else (none)) else (none)) else (none)) else (none)) else (some x3)
def impl_edgeOf.f (k : Nat) (l0_0 : List Int) (l0_1 : List Int) : Option (List Int) := if 0 ≤ (l0_1.length : Int) then (if ((l0_1.length : Int) : Int).toNat ≤ 35184372088832 then ((impl_edgesOf.f k l0_0 l0_1).bind fun t298 => (impl_edgeOf.l0 k (List.replicate ((l0_1.length : Int) : Int).toNat 0) t298 (t298.length : Int) 0 l0_0 l0_1)) else (none)) else (none)
set_option maxHeartbeats 8000000 in
set_option maxRecDepth 100000 in
theorem impl_edgeOf.calls (k : Nat) (A0_0 : Option Addr) (c0_0 : Nat) (l0_0 : List Int) (A0_1 : Option Addr) (c0_1 : Nat) (l0_1 : List Int) (r : List Int) (w : World) (hr0_0 : Kd.C (Kd.int .i64) w A0_0 l0_0.length l0_0) (hc0_0 : l0_0.length ≤ c0_0) (hr0_1 : Kd.C (Kd.int .i64) w A0_1 l0_1.length l0_1) (hc0_1 : l0_1.length ≤ c0_1) (h : impl_edgeOf.f k l0_0 l0_1 = some r) :
    Calls Try.prog 107 #[.agg #[.slice A0_0 l0_0.length c0_0, .slice A0_1 l0_1.length c0_1]] w fun e w' => ∃ v0_ : Value, e = .returned (v0_) ∧ Kd.R (Kd.int .i64) 3 w' w.heap.size (fun _ => True) v0_ r ∧ Below w.heap.size w w' := by
 have hu29 := Try.underlying29
 have HR0_0 := A0_ hr0_0
 have HC0_0 := A0_ hc0_0
 clear hr0_0 hc0_0
 have HR0_1 := A0_ hr0_1
 have HC0_1 := A0_ hc0_1
 clear hr0_1 hc0_1
 have HB := A0_ (Below.refl w.heap.size w)
 have H : (if 0 ≤ (l0_1.length : Int) then (if ((l0_1.length : Int) : Int).toNat ≤ 35184372088832 then ((impl_edgesOf.f k l0_0 l0_1).bind fun t298 => (impl_edgeOf.l0 k (List.replicate ((l0_1.length : Int) : Int).toNat 0) t298 (t298.length : Int) 0 l0_0 l0_1)) else (none)) else (none)) = some r := h
 clear h
 by_cases c2 : 0 ≤ (l0_1.length : Int)
 ·rw [if_pos c2] at H
  have c2b0 := eq_true c2
  have c2b1 : decide (0 ≤ (l0_1.length : Int)) = true := dT c2
  clear c2
  by_cases c3 : ((l0_1.length : Int) : Int).toNat ≤ 35184372088832
  ·rw [if_pos c3] at H
   have c3b0 := eq_true c3
   have c3b1 : decide (((l0_1.length : Int) : Int).toNat ≤ 35184372088832) = true := dT c3
   clear c3
   obtain ⟨y295, hy295⟩ : ∃ y_ : List Int, y_ = (List.replicate ((l0_1.length : Int) : Int).toNat 0) := ⟨_, rfl⟩
   replace H : ((impl_edgesOf.f k l0_0 l0_1).bind fun t298 => (impl_edgeOf.l0 k y295 t298 (t298.length : Int) 0 l0_0 l0_1)) = some r := by first | (rw [hy295]; with_reducible exact H) | (have H2_ := (Option.bind_some _ _).symm.trans H; rw [hy295]; with_reducible exact H2_) | (have H2_ := (Option.bind_some _ _).symm.trans H; with_reducible exact H2_) | with_reducible exact H | (rw [hy295]; exact H) | exact H
   have Ny295 := A0_ hy295
   clear hy295
   replace H := Option.bind_eq_some_iff.mp H
   obtain ⟨t298, A40, H⟩ := H
   replace H : (impl_edgeOf.l0 k y295 t298 (t298.length : Int) 0 l0_0 l0_1) = some r := H
   have A4 := A0_ A40
   clear A40
   have H' := A0_ H
   clear H
   go_enter Try.func107, Try.ntmps107
   go_wp2_with (first | ((with_reducible refine gD (N := 1) rfl ?_); refine box_event ?hg (N := 1) ?hd (cs := #[.slice A0_0 l0_0.length c0_0, .slice A0_1 l0_1.length c0_1]) (t := 29) ?hr ?_; (case hd => rfl); (case hg => rfl); (case hr => first | (go_simp; done) | (go_simp; rfl)); intro gb294 hg w5 hbox hb; have n0_ := A0_ (bT (by repeat (first | (with_reducible first | exact HB.out | apply bA | apply bN | apply bD) | exact HB.out)) hb); have n1_ := A0_ (hbox); have n2_ := A0_ ((by rw [hg]; exact (bZ (by repeat (first | (with_reducible first | exact HB.out | apply bA | apply bN | apply bD) | exact HB.out))) : w.heap.size ≤ gb294)); have n3_ := A0_ ((by rw [hg]; exact (bZ (by repeat (first | (with_reducible first | exact HB.out | apply bA | apply bN | apply bD) | exact HB.out))) : w.heap.size ≤ gb294)); clear HB; have HB := n0_; have BK294 := n1_; have GW294 := n2_; have GE294 := n3_; clear n0_ n1_ n2_ n3_; clear hb hbox hg; have hcz6_0 : w5.cell? ⟨gb294, 0, none⟩ = some (.slice A0_0 l0_0.length c0_0) := (kC BK294.out 0).trans rfl; have hcz6_1 : w5.cell? ⟨gb294, 1, none⟩ = some (.slice A0_1 l0_1.length c0_1) := (kC BK294.out 1).trans rfl; have hfz6_0 := kF BK294.out 0; have hfz6_1 := kF BK294.out 1) | ((with_reducible refine gD (N := 9) rfl ?_); refine Kd.R_make (Kd.int .i64) _ 3 rfl (N := 9) rfl 22 _ _ rfl (l0_1.length : Int) rfl rfl Try.underlying22 (.int .i64 0) 8 info3 rfl (by decide) (by omega) 0 (ok := fun _ => True) (okp := fun _ => True) rfl (fun _ hk => hk) trivial (oD (by assumption)) (Nat.le_trans (Nat.mul_le_mul_right _ (oD (by assumption) : (l0_1.length : Int).toNat ≤ 35184372088832)) (by omega)) (Below.refl _ _) (Nat.le_refl _) ?_; intro v296 w7 ho8 hb hg_ hnew_; clear hg_ hnew_; (first | rw [← Ny295.out] at ho8 | (simp only [Int.reduceToNat] at ho8; rw [← Ny295.out] at ho8)); have n0_ := A0_ (rL ho8 (bZ (by repeat (first | (with_reducible first | exact HB.out | apply bA | apply bN | apply bD | refine bS ?_ GE294.out) | exact HB.out)))); have n1_ := A0_ (kB (g := gb294) (o := .cells #[.slice A0_0 l0_0.length c0_0, .slice A0_1 l0_1.length c0_1] 29 (0, 0)) (by (with_reducible repeat refine kA ?_ _); exact BK294.out) hb); have n2_ := A0_ (bT (by repeat (first | (with_reducible first | exact HB.out | apply bA | apply bN | apply bD | refine bS ?_ GE294.out) | exact HB.out)) hb); clear BK294; clear HB; have HO297 := n0_; have BK294 := n1_; have HB := n2_; clear n0_ n1_ n2_; clear hb ho8; have hcz9_0 : w7.cell? ⟨gb294, 0, none⟩ = some (.slice A0_0 l0_0.length c0_0) := (kC BK294.out 0).trans rfl; have hcz9_1 : w7.cell? ⟨gb294, 1, none⟩ = some (.slice A0_1 l0_1.length c0_1) := (kC BK294.out 1).trans rfl; have hfz9_0 := kF BK294.out 0; have hfz9_1 := kF BK294.out 1) | ((with_reducible refine gC (f := 105) rfl ?_); refine goesL_ (some 11) rfl rfl Try.func105 (by kernel_rfl) rfl #[.agg #[.slice A0_0 l0_0.length c0_0, .slice A0_1 l0_1.length c0_1]] rfl (by (try simp only [List.map_toArray, List.map_cons, List.map_nil]); first | done | rfl) ?_; (with_reducible refine (impl_edgesOf.calls k _ _ l0_0 _ _ l0_1 t298 _ ?side1 ?side2 ?side3 ?side4 A4.out).mono ?_); (case side1 => repeat (first | exact (cB HR0_0.out HB.out) | (with_reducible refine cA ?_ _))); (case side2 => exact HC0_0.out); (case side3 => repeat (first | exact (cB HR0_1.out HB.out) | (with_reducible refine cA ?_ _))); (case side4 => exact HC0_1.out); rintro e w10 ⟨v299, rfl, ho0, hb⟩; refine ⟨_, rfl, ?_⟩; have n0_ := A0_ (Kd.R_elder' (by (with_reducible repeat apply rA); exact HO297.out) (Kd.R_base ho0) hb); have n1_ := A0_ (rL (Kd.R_new' ho0 (rX (by (with_reducible repeat apply rA); exact HO297.out))) (bZ (by repeat (first | (with_reducible first | exact HB.out | apply bA | apply bN | apply bD | refine bS ?_ GE294.out) | exact HB.out)))); have n2_ := A0_ (kB (g := gb294) (o := .cells #[.slice A0_0 l0_0.length c0_0, .slice A0_1 l0_1.length c0_1] 29 (0, 0)) (by (with_reducible repeat refine kA ?_ _); exact BK294.out) hb); have n3_ := A0_ (bT (by repeat (first | (with_reducible first | exact HB.out | apply bA | apply bN | apply bD | refine bS ?_ GE294.out) | exact HB.out)) hb); clear HO297; clear BK294; clear HB; have HO297 := n0_; have HO300 := n1_; have BK294 := n2_; have HB := n3_; clear n0_ n1_ n2_ n3_; (try clear hb); (try clear hb2); (try clear hk); (try clear hi); (try clear ho0); obtain ⟨Ao11, co11, eo11⟩ := rS HO300.out; subst eo11))
   go_loopg [13] k (fun kq v13 w' => ∃ (x3_1 : List Int) (x13_1 : Int), v13 = .int .i64 x13_1 ∧ Aside0 (impl_edgeOf.l0 kq x3_1 t298 (t298.length : Int) x13_1 l0_0 l0_1 = some r) ∧ Aside0 (kq ≤ k) ∧ Aside0 (Kd.R (Kd.int .i64) 3 w' w.heap.size (fun k_ => some k_ ≠ ((.slice Ao11 t298.length co11) : Value).ownBlock) v296 x3_1) ∧ Aside0 (Kd.R (Kd.int .i64) 3 w' w.heap.size (fun k_ => some k_ ≠ (v296 : Value).ownBlock) (.slice Ao11 t298.length co11) t298) ∧ Aside0 (w'.heap[gb294]? = some (.cells #[(.slice A0_0 l0_0.length c0_0), (.slice A0_1 l0_1.length c0_1)] 29 (0, 0))) ∧ Aside0 (Below w.heap.size w w'))
   case atStart => exact ⟨(y295), (0), (by first | rfl | (simp; done) | (simp [*]; done)), H', ⟨Nat.le_refl _⟩, ⟨by (with_reducible repeat (first | apply rA | apply rN | apply rD)); exact rM HO297.out (fun _ hk => hk.2)⟩, ⟨by (with_reducible repeat (first | apply rA | apply rN | apply rD)); exact rM HO300.out (fun _ hk => hk.2)⟩, ⟨by (with_reducible repeat (first | refine kN ?_ _ | refine kD ?_ | refine kA ?_ _)); exact BK294.out⟩, ⟨by repeat (first | (with_reducible first | exact HB.out | apply bA | apply bN | apply bD | refine bS ?_ GE294.out) | exact HB.out)⟩⟩
   case round =>
    clear H'
    try clear c1
    try clear c2
    try clear c2b0
    try clear c2b1
    try clear p2
    try clear c3
    try clear c3b0
    try clear c3b1
    try clear c10
    try clear hcz6_0
    try clear hcz6_1
    try clear hcz9_0
    try clear hcz9_1
    try clear hfz6_0
    try clear hfz6_1
    try clear hfz9_0
    try clear hfz9_1
    obtain ⟨x3_1, x13_1, rfl, HA, HK1, HO_3, HO_11, BK294, HB⟩ := hrel
    cases gk with
    | zero => exact absurd HA.out (by simp [impl_edgeOf.l0])
    | succ k1 =>
     have H := HA.out
     clear HA
     simp only [impl_edgeOf.l0] at H
     by_cases c12 : x13_1 < (t298.length : Int)
     ·rw [if_pos c12] at H
      have c12b0 : decide (x13_1 < (t298.length : Int)) = true := dT c12
      clear c12
      by_cases c13 : 0 ≤ x13_1
      ·rw [if_pos c13] at H
       have c13b0 : decide (0 ≤ x13_1) = true := dT c13
       clear c13
       by_cases c14 : x13_1 < (t298.length : Int)
       ·rw [if_pos c14] at H
        have c14b0 : decide (x13_1 < (t298.length : Int)) = true := dT c14
        clear c14
        by_cases c15 : 0 ≤ (rd t298 x13_1)
        ·rw [if_pos c15] at H
         have c15b0 : decide (0 ≤ (rd t298 x13_1)) = true := dT c15
         clear c15
         by_cases c16 : (rd t298 x13_1) < (l0_1.length : Int)
         ·rw [if_pos c16] at H
          have c16b0 : decide ((rd t298 x13_1) < (l0_1.length : Int)) = true := dT c16
          clear c16
          by_cases c17 : (rd t298 x13_1) < (x3_1.length : Int)
          ·rw [if_pos c17] at H
           have c17b0 : decide ((rd t298 x13_1) < (x3_1.length : Int)) = true := dT c17
           clear c17
           obtain ⟨y303, hy303⟩ : ∃ y_ : List Int, y_ = (x3_1.set ((rd t298 x13_1) : Int).toNat x13_1) := ⟨_, rfl⟩
           replace H : (if 0 ≤ (rd l0_1 (rd t298 x13_1)) then (if (rd l0_1 (rd t298 x13_1)) < (x3_1.length : Int) then (impl_edgeOf.l0 k1 (y303.set ((rd l0_1 (rd t298 x13_1)) : Int).toNat x13_1) t298 (t298.length : Int) (wrap64 (x13_1 + 1)) l0_0 l0_1) else (none)) else (none)) = some r := by first | (rw [hy303]; with_reducible exact H) | (have H2_ := (Option.bind_some _ _).symm.trans H; rw [hy303]; with_reducible exact H2_) | (have H2_ := (Option.bind_some _ _).symm.trans H; with_reducible exact H2_) | with_reducible exact H | (rw [hy303]; exact H) | exact H
           have Ny303 := A0_ hy303
           clear hy303
           by_cases c19 : 0 ≤ (rd l0_1 (rd t298 x13_1))
           ·rw [if_pos c19] at H
            have c19b0 : decide (0 ≤ (rd l0_1 (rd t298 x13_1))) = true := dT c19
            clear c19
            by_cases c20 : (rd l0_1 (rd t298 x13_1)) < (x3_1.length : Int)
            ·rw [if_pos c20] at H
             have c20b0 : decide ((rd l0_1 (rd t298 x13_1)) < (x3_1.length : Int)) = true := dT c20
             clear c20
             obtain ⟨y304, hy304⟩ : ∃ y_ : List Int, y_ = (y303.set ((rd l0_1 (rd t298 x13_1)) : Int).toNat x13_1) := ⟨_, rfl⟩
             replace H : (impl_edgeOf.l0 k1 y304 t298 (t298.length : Int) (wrap64 (x13_1 + 1)) l0_0 l0_1) = some r := by first | (rw [hy304]; with_reducible exact H) | (have H2_ := (Option.bind_some _ _).symm.trans H; rw [hy304]; with_reducible exact H2_) | (have H2_ := (Option.bind_some _ _).symm.trans H; with_reducible exact H2_) | with_reducible exact H | (rw [hy304]; exact H) | exact H
             have Ny304 := A0_ hy304
             clear hy304
             have H' := A0_ H
             clear H
             have p301 : 0 ≤ (x13_1 : Int) := oD (by assumption)
             have q301 : x13_1 < (t298.length : Int) := oD (by assumption)
             obtain ⟨ad301, e301, hx301_0⟩ := tI (rR HO_11.out).2.2 x13_1 p301 q301
             cases e301
             replace p301 := eq_true p301
             replace q301 := eq_true q301
             have hcz22_0 : wr.cell? ⟨gb294, 0, none⟩ = some (.slice A0_0 l0_0.length c0_0) := (kC BK294.out 0).trans rfl
             have hcz22_1 : wr.cell? ⟨gb294, 1, none⟩ = some (.slice A0_1 l0_1.length c0_1) := (kC BK294.out 1).trans rfl
             have hfz22_0 := kF BK294.out 0
             have hfz22_1 := kF BK294.out 1
             have p302 : 0 ≤ ((rd t298 x13_1) : Int) := oD (by assumption)
             have q302 : (rd t298 x13_1) < (l0_1.length : Int) := oD (by assumption)
             obtain ⟨ad302, e302, hx302_0⟩ := tI HR0_1.out (rd t298 x13_1) p302 q302
             cases e302
             replace hx302_0 := (HB.out.cell (wL w _ hx302_0)).trans hx302_0
             replace p302 := eq_true p302
             replace q302 := eq_true q302
             have p18 : 0 ≤ ((rd t298 x13_1) : Int) := oD (by assumption)
             have q18 : ((rd t298 x13_1) : Int) < ((x3_1.length : Int) : Int) := oD (by assumption)
             obtain ⟨go18, co18, eo18, gb18, gl18, cl18, HG18⟩ := Kd.R_form HO_3.out (by omega)
             (first | cases eo18 | (injection eo18 with ea_ en_ ec_; (first | subst ea_ | (injection ea_ with ea_; subst ea_)); subst ec_; clear en_))
             have GB18 := A0_ gb18
             have GG18 := A0_ HG18
             clear gb18 gl18 HG18
             obtain ⟨hx18_0, hf18_0⟩ := Kd.R_celln 0 HO_3.out ((rd t298 x13_1) : Int) p18 q18
             replace p18 := eq_true p18
             replace q18 := eq_true q18
             have HP23 := Kd.R_putg HO_3.out ((rd t298 x13_1) : Int) x13_1
             go_wp2_with (first | ((with_reducible refine gS (t := 3) (p := 28) rfl ?_); refine store_event (t := 3) (p := 28) (v := ?vo_w24) (w1 := (wr.setCell ⟨go18, ((rd t298 x13_1) : Int).toNat, none⟩ (.int .i64 x13_1))) ?hg ?ho ?hn ?hr ?_; (case ho => rfl); (case hg => rfl); (case hn => rfl); (case hr => first | (go_simp; done) | (go_simp; rfl)); intro w24 hw; have hg : wr.grownBy w24 (some go18) := (by rw [hw]; exact HP23.2); have hp_ : Kd.R (Kd.int .i64) 3 w24 w.heap.size (fun k_ => some k_ ≠ (.slice (some ad301) t298.length co11 : Value).ownBlock) (.slice (some ⟨go18, 0, none⟩) x3_1.length co18) y303 := (by rw [hw, Ny303.out]; exact HP23.1); clear HP23; have n0_ := A0_ (hp_); have n1_ := A0_ (Kd.R_after (v := (.slice (some ⟨go18, 0, none⟩) x3_1.length co18)) (v1 := (.slice (some ⟨go18, 0, none⟩) x3_1.length co18)) (ok := (fun _ => True)) (by (with_reducible repeat apply rA); exact rM HO_11.out (fun _ hk => ⟨trivial, hk⟩)) hg (.inl rfl)); have n2_ := A0_ (blk_grown (g := gb294) (o := .cells #[.slice A0_0 l0_0.length c0_0, .slice (some ad302) l0_1.length c0_1] 29 (0, 0)) (by (with_reducible repeat refine kA ?_ _); exact BK294.out) hg (Kd.R_ne HO_3.out BK294.out (by decide))); have n3_ := A0_ ((by rw [hw]; exact bS (HB.out) GB18.out : Below w.heap.size w w24)); clear HO_3; clear HO_11; clear BK294; clear HB; have HO_3 := n0_; have HO_11 := n1_; have BK294 := n2_; have HB := n3_; clear n0_ n1_ n2_ n3_; clear hg hw hp_; have p21 : 0 ≤ ((rd l0_1 (rd t298 x13_1)) : Int) := oD (by assumption); have q21 : ((rd l0_1 (rd t298 x13_1)) : Int) < ((x3_1.length : Int) : Int) := oD (by assumption); obtain ⟨hx21_0, hf21_0⟩ := Kd.R_celln 0 HO_3.out ((rd l0_1 (rd t298 x13_1)) : Int) p21 q21; replace p21 := eq_true p21; replace q21 := eq_true q21; obtain ⟨hy25_, hz25_⟩ := Kd.R_celln 0 HO_3.out ((rd l0_1 (rd t298 x13_1)) : Int) (oD (by assumption)) (oD (by assumption)); have HP25 := Kd.R_putg HO_3.out ((rd l0_1 (rd t298 x13_1)) : Int) x13_1) | ((with_reducible refine gS (t := 3) (p := 29) rfl ?_); refine store_event (t := 3) (p := 29) (v := ?vo_w26) (w1 := (w24.setCell ⟨go18, ((rd l0_1 (rd t298 x13_1)) : Int).toNat, none⟩ (.int .i64 x13_1))) ?hg ?ho ?hn ?hr ?_; (case ho => rfl); (case hg => rfl); (case hn => rfl); (case hr => first | (go_simp; done) | (go_simp; rfl)); intro w26 hw; have hg : w24.grownBy w26 (some go18) := (by rw [hw]; exact HP25.2); have hp_ : Kd.R (Kd.int .i64) 3 w26 w.heap.size (fun k_ => some k_ ≠ (.slice (some ad301) t298.length co11 : Value).ownBlock) (.slice (some ⟨go18, 0, none⟩) x3_1.length co18) y304 := (by rw [hw, Ny304.out]; exact HP25.1); clear HP25; have n0_ := A0_ (hp_); have n1_ := A0_ (Kd.R_after (v := (.slice (some ⟨go18, 0, none⟩) x3_1.length co18)) (v1 := (.slice (some ⟨go18, 0, none⟩) x3_1.length co18)) (ok := (fun _ => True)) (by (with_reducible repeat apply rA); exact HO_11.out) hg (.inl rfl)); have n2_ := A0_ (blk_grown (g := gb294) (o := .cells #[.slice A0_0 l0_0.length c0_0, .slice (some ad302) l0_1.length c0_1] 29 (0, 0)) (by (with_reducible repeat refine kA ?_ _); exact BK294.out) hg (Kd.R_ne HO_3.out BK294.out (by decide))); have n3_ := A0_ ((by rw [hw]; exact bS (HB.out) GB18.out : Below w.heap.size w w26)); clear HO_3; clear HO_11; clear BK294; clear HB; have HO_3 := n0_; have HO_11 := n1_; have BK294 := n2_; have HB := n3_; clear n0_ n1_ n2_ n3_; clear hg hw hp_))
             go_roundg k1
             case measure => have := HK1.out; omega
             case rel => exact ⟨(y304), (wrap64 (x13_1 + 1)), (by first | rfl | (simp; done) | (simp [*]; done)), H', ⟨by have := HK1.out; omega⟩, ⟨by (with_reducible repeat (first | apply rA | apply rN | apply rD)); exact HO_3.out⟩, ⟨by (with_reducible repeat (first | apply rA | apply rN | apply rD)); exact rM HO_11.out (fun _ hk => hk.2)⟩, ⟨by (with_reducible repeat (first | refine kN ?_ _ | refine kD ?_ | refine kA ?_ _)); exact BK294.out⟩, ⟨by repeat (first | (with_reducible first | exact HB.out | apply bA | apply bN | apply bD | refine bS ?_ GE294.out) | exact HB.out)⟩⟩
            ·rw [if_neg c20] at H
             exact absurd H (by simp)
           ·rw [if_neg c19] at H
            exact absurd H (by simp)
          ·rw [if_neg c17] at H
           exact absurd H (by simp)
         ·rw [if_neg c16] at H
          exact absurd H (by simp)
        ·rw [if_neg c15] at H
         exact absurd H (by simp)
       ·rw [if_neg c14] at H
        exact absurd H (by simp)
      ·rw [if_neg c13] at H
       exact absurd H (by simp)
     ·rw [if_neg c12] at H
      have c12b0 : decide (x13_1 < (t298.length : Int)) = false := dF c12
      clear c12
      obtain rfl := sI H
      go_wp2
      go_ret
      exact ⟨_, by first | rfl | (simp [*] <;> rfl), by (with_reducible repeat (first | apply rA | apply rN | apply rD)); exact rM HO_3.out (fun _ hk => trivial), by repeat (first | (with_reducible first | exact HB.out | apply bA | apply bN | apply bD | refine bS ?_ GE294.out) | exact HB.out)⟩
  ·rw [if_neg c3] at H
   exact absurd H (by simp)
 ·rw [if_neg c2] at H
  exact absurd H (by simp)

/-! ### impl_along: function 91 -/
def impl_along.f (k : Nat) (l0_0 : List Int) (l0_1 : List Int) (l1 : List (List Int)) (a2 : Int) : Option (List Int) := (impl_edgeOf.f k l0_0 l0_1).bind fun t306 => (if 0 ≤ a2 then (if a2 < (t306.length : Int) then (if 0 ≤ (rd t306 a2) then (if (rd t306 a2) < (l1.length : Int) then (if a2 < (l0_1.length : Int) then (if a2 > (rd l0_1 a2) then ((impl_back.f k (rd_L1 l1 (rd t306 a2))).bind fun t312 => (some t312)) else (some (rd_L1 l1 (rd t306 a2)))) else (none)) else (none)) else (none)) else (none)) else (none))
set_option maxHeartbeats 8000000 in
set_option maxRecDepth 100000 in
theorem impl_along.calls (k : Nat) (A0_0 : Option Addr) (c0_0 : Nat) (l0_0 : List Int) (A0_1 : Option Addr) (c0_1 : Nat) (l0_1 : List Int) (P1_ : Nat → Prop) (A1 : Option Addr) (c1 : Nat) (l1 : List (List Int)) (a2 : Int) (r : List Int) (w : World) (hr0_0 : Kd.C (Kd.int .i64) w A0_0 l0_0.length l0_0) (hc0_0 : l0_0.length ≤ c0_0) (hr0_1 : Kd.C (Kd.int .i64) w A0_1 l0_1.length l0_1) (hc0_1 : l0_1.length ≤ c0_1) (hs1 : Kd.V (Kd.slice 3 (Kd.int .i64)) 22 w w.heap.size (fun k_ => P1_ k_) (.slice A1 l1.length c1) l1) (h : impl_along.f k l0_0 l0_1 l1 a2 = some r) :
    Calls Try.prog 91 #[.agg #[.slice A0_0 l0_0.length c0_0, .slice A0_1 l0_1.length c0_1], .slice A1 l1.length c1, .int .i64 a2] w fun e w' => ∃ v0_ : Value, e = .returned (v0_) ∧ Kd.V (Kd.int .i64) 3 w' w.heap.size (fun k_ => (P1_ k_ ∨ w.heap.size ≤ k_)) v0_ r ∧ Below w.heap.size w w' := by
 have hu29 := Try.underlying29
 have HR0_0 := A0_ hr0_0
 have HC0_0 := A0_ hc0_0
 clear hr0_0 hc0_0
 have HR0_1 := A0_ hr0_1
 have HC0_1 := A0_ hc0_1
 clear hr0_1 hc0_1
 have HO1 := A0_ (show Kd.V (Kd.slice 3 (Kd.int .i64)) 22 w w.heap.size (fun k_ => (P1_ k_ ∨ w.heap.size ≤ k_)) (.slice A1 l1.length c1) l1 from Kd.V_mono hs1 (fun k_ hk => .inl hk))
 have HB := A0_ (Below.refl w.heap.size w)
 have H : ((impl_edgeOf.f k l0_0 l0_1).bind fun t306 => (if 0 ≤ a2 then (if a2 < (t306.length : Int) then (if 0 ≤ (rd t306 a2) then (if (rd t306 a2) < (l1.length : Int) then (if a2 < (l0_1.length : Int) then (if a2 > (rd l0_1 a2) then ((impl_back.f k (rd_L1 l1 (rd t306 a2))).bind fun t312 => (some t312)) else (some (rd_L1 l1 (rd t306 a2)))) else (none)) else (none)) else (none)) else (none)) else (none))) = some r := h
 clear h
 replace H := Option.bind_eq_some_iff.mp H
 obtain ⟨t306, A40, H⟩ := H
 replace H : (if 0 ≤ a2 then (if a2 < (t306.length : Int) then (if 0 ≤ (rd t306 a2) then (if (rd t306 a2) < (l1.length : Int) then (if a2 < (l0_1.length : Int) then (if a2 > (rd l0_1 a2) then ((impl_back.f k (rd_L1 l1 (rd t306 a2))).bind fun t312 => (some t312)) else (some (rd_L1 l1 (rd t306 a2)))) else (none)) else (none)) else (none)) else (none)) else (none)) = some r := H
 have A4 := A0_ A40
 clear A40
 by_cases c5 : 0 ≤ a2
 ·rw [if_pos c5] at H
  have c5b0 : decide (0 ≤ a2) = true := dT c5
  clear c5
  by_cases c6 : a2 < (t306.length : Int)
  ·rw [if_pos c6] at H
   have c6b0 : decide (a2 < (t306.length : Int)) = true := dT c6
   clear c6
   by_cases c7 : 0 ≤ (rd t306 a2)
   ·rw [if_pos c7] at H
    have c7b0 : decide (0 ≤ (rd t306 a2)) = true := dT c7
    clear c7
    by_cases c8 : (rd t306 a2) < (l1.length : Int)
    ·rw [if_pos c8] at H
     have c8b0 : decide ((rd t306 a2) < (l1.length : Int)) = true := dT c8
     clear c8
     by_cases c9 : a2 < (l0_1.length : Int)
     ·rw [if_pos c9] at H
      have c9b0 : decide (a2 < (l0_1.length : Int)) = true := dT c9
      clear c9
      by_cases c10 : a2 > (rd l0_1 a2)
      ·rw [if_pos c10] at H
       have c10b0 : decide ((rd l0_1 a2) < a2) = true := dT c10
       clear c10
       replace H := Option.bind_eq_some_iff.mp H
       obtain ⟨t312, A110, H⟩ := H
       replace H : (some t312) = some r := H
       have A11 := A0_ A110
       clear A110
       obtain rfl := sI H
       go_enter Try.func91, Try.ntmps91
       go_wp2_with (first | ((with_reducible refine gD (N := 3) rfl ?_); refine box_event ?hg (N := 3) ?hd (cs := #[.slice A0_0 l0_0.length c0_0, .slice A0_1 l0_1.length c0_1]) (t := 29) ?hr ?_; (case hd => rfl); (case hg => rfl); (case hr => first | (go_simp; done) | (go_simp; rfl)); intro gb305 hg w12 hbox hb; have n0_ := A0_ (Kd.V_below (Kd.V_elderB (by (with_reducible repeat apply Kd.V_alloc); exact HO1.out) gb305 (Nat.le_of_eq hg.symm)) hb); have n1_ := A0_ (bT (by repeat (first | (with_reducible first | exact HB.out | apply bA | apply bN | apply bD) | exact HB.out)) hb); have n2_ := A0_ (hbox); have n3_ := A0_ ((by rw [hg]; exact (bZ (by repeat (first | (with_reducible first | exact HB.out | apply bA | apply bN | apply bD) | exact HB.out))) : w.heap.size ≤ gb305)); have n4_ := A0_ ((by rw [hg]; exact (bZ (by repeat (first | (with_reducible first | exact HB.out | apply bA | apply bN | apply bD) | exact HB.out))) : w.heap.size ≤ gb305)); clear HO1; clear HB; have HO1 := n0_; have HB := n1_; have BK305 := n2_; have GW305 := n3_; have GE305 := n4_; clear n0_ n1_ n2_ n3_ n4_; clear hb hbox hg; have hcz13_0 : w12.cell? ⟨gb305, 0, none⟩ = some (.slice A0_0 l0_0.length c0_0) := (kC BK305.out 0).trans rfl; have hcz13_1 : w12.cell? ⟨gb305, 1, none⟩ = some (.slice A0_1 l0_1.length c0_1) := (kC BK305.out 1).trans rfl; have hfz13_0 := kF BK305.out 0; have hfz13_1 := kF BK305.out 1) | ((with_reducible refine gC (f := 107) rfl ?_); refine goesL_ (some 10) rfl rfl Try.func107 (by kernel_rfl) rfl #[.agg #[.slice A0_0 l0_0.length c0_0, .slice A0_1 l0_1.length c0_1]] rfl (by (try simp only [List.map_toArray, List.map_cons, List.map_nil]); first | done | rfl) ?_; (with_reducible refine (impl_edgeOf.calls k _ _ l0_0 _ _ l0_1 t306 _ ?side1 ?side2 ?side3 ?side4 A4.out).mono ?_); (case side1 => repeat (first | exact (cB HR0_0.out HB.out) | (with_reducible refine cA ?_ _))); (case side2 => exact HC0_0.out); (case side3 => repeat (first | exact (cB HR0_1.out HB.out) | (with_reducible refine cA ?_ _))); (case side4 => exact HC0_1.out); rintro e w14 ⟨v307, rfl, ho0, hb⟩; refine ⟨_, rfl, ?_⟩; have n0_ := A0_ (Kd.V_elder' (by (with_reducible repeat apply Kd.V_alloc); exact HO1.out) (Kd.R_base ho0) hb); have n1_ := A0_ (rL (Kd.R_newM (M := fun k_ => (w.heap.size ≤ k_)) ho0 (bZ (by repeat (first | (with_reducible first | exact HB.out | apply bA | apply bN | apply bD | refine bS ?_ GE305.out) | exact HB.out))) (fun k_ h_ => h_)) (bZ (by repeat (first | (with_reducible first | exact HB.out | apply bA | apply bN | apply bD | refine bS ?_ GE305.out) | exact HB.out)))); have n2_ := A0_ (kB (g := gb305) (o := .cells #[.slice A0_0 l0_0.length c0_0, .slice A0_1 l0_1.length c0_1] 29 (0, 0)) (by (with_reducible repeat refine kA ?_ _); exact BK305.out) hb); have n3_ := A0_ (bT (by repeat (first | (with_reducible first | exact HB.out | apply bA | apply bN | apply bD | refine bS ?_ GE305.out) | exact HB.out)) hb); clear HO1; clear BK305; clear HB; have HO1 := n0_; have HO308 := n1_; have BK305 := n2_; have HB := n3_; clear n0_ n1_ n2_ n3_; (try clear hb); (try clear hb2); (try clear hk); (try clear hi); (try clear ho0); obtain ⟨Ao15, co15, eo15⟩ := rS HO308.out; subst eo15; have p309 : 0 ≤ (a2 : Int) := oD (by assumption); have q309 : a2 < (t306.length : Int) := oD (by assumption); obtain ⟨ad309, e309, hx309_0⟩ := tI (rR HO308.out).2.2 a2 p309 q309; cases e309; replace p309 := eq_true p309; replace q309 := eq_true q309; have p310 : 0 ≤ ((rd t306 a2) : Int) := oD (by assumption); have q310 : (rd t306 a2) < (l1.length : Int) := oD (by assumption); obtain ⟨ad310, A310_0, c310_0, e310, hx310_0, hl310_0, hi310_0⟩ := at_L1 (Kd.V_reads' HO1.out).2.2 (rd t306 a2) p310 q310; cases e310; obtain ⟨ce310, hce310, hMe310, hcc310⟩ := Kd.V_get HO1.out [] (rd t306 a2) p310 (by first | exact q310 | exact oD (by assumption) | (have e_ := (Kd.V_reads' HO1.out).1; omega)); obtain ⟨ua310_0, uc310_0, rfl, ul310_0, ge310_0⟩ := Kd.FK_slice_open hMe310; have hv310_0 := hcc310 0 _ rfl; rw [Nat.add_zero, show ((Kd.slice 3 (Kd.int .i64))).sz = 1 from rfl, Nat.mul_one] at hv310_0; replace hv310_0 := sI (hv310_0.symm.trans hx310_0); injection hv310_0 with hva_ hvn_ hvc_; rw [hva_] at ge310_0; rw [hvc_] at ul310_0; have HL310_0 := A0_ (show Kd.V (Kd.int .i64) 3 _ w.heap.size _ _ (rd_L1 l1 (rd t306 a2)) from Kd.V_mk ul310_0 ge310_0); clear hva_ hvn_ hvc_ ge310_0 ul310_0; clear hcc310 hce310; have HR310_0 := A0_ hi310_0; have HC310_0 := A0_ hl310_0; clear hi310_0 hl310_0; replace p310 := eq_true p310; replace q310 := eq_true q310; have hcz16_0 : w14.cell? ⟨gb305, 0, none⟩ = some (.slice A0_0 l0_0.length c0_0) := (kC BK305.out 0).trans rfl; have hcz16_1 : w14.cell? ⟨gb305, 1, none⟩ = some (.slice A0_1 l0_1.length c0_1) := (kC BK305.out 1).trans rfl; have hfz16_0 := kF BK305.out 0; have hfz16_1 := kF BK305.out 1; have p311 : 0 ≤ (a2 : Int) := oD (by assumption); have q311 : a2 < (l0_1.length : Int) := oD (by assumption); obtain ⟨ad311, e311, hx311_0⟩ := tI HR0_1.out a2 p311 q311; cases e311; replace hx311_0 := (HB.out.cell (wL w _ hx311_0)).trans hx311_0; replace p311 := eq_true p311; replace q311 := eq_true q311) | ((with_reducible refine gC (f := 89) rfl ?_); refine goesL_ (some 24) rfl rfl Try.func89 (by kernel_rfl) rfl #[.slice A310_0 (rd_L1 l1 (rd t306 a2)).length c310_0] rfl (by (try simp only [List.map_toArray, List.map_cons, List.map_nil]); first | done | rfl) ?_; (with_reducible refine (impl_back.calls k _ _ (rd_L1 l1 (rd t306 a2)) t312 _ ?side1 ?side2 A11.out).mono ?_); (case side1 => repeat (first | exact (by repeat (first | (with_reducible exact HR310_0.out) | (with_reducible refine cA ?_ _) | exact HR310_0.out)) | (with_reducible refine cA ?_ _))); (case side2 => exact HC310_0.out); rintro e w17 ⟨v313, rfl, ho0, hb⟩; refine ⟨_, rfl, ?_⟩; have n0_ := A0_ (Kd.V_elder' (by (with_reducible repeat apply Kd.V_alloc); exact HO1.out) (Kd.R_base ho0) hb); have n1_ := A0_ (Kd.R_elder' (by (with_reducible repeat apply rA); exact HO308.out) (Kd.R_base ho0) hb); have n2_ := A0_ (Kd.V_elder' (by (with_reducible repeat apply Kd.V_alloc); exact HL310_0.out) (Kd.R_base ho0) hb); have n3_ := A0_ (rL (Kd.R_new' (Kd.R_newM (M := fun k_ => (w.heap.size ≤ k_)) ho0 (bZ (by repeat (first | (with_reducible first | exact HB.out | apply bA | apply bN | apply bD | refine bS ?_ GE305.out) | exact HB.out))) (fun k_ h_ => h_)) (rX (by (with_reducible repeat apply rA); exact HO308.out))) (bZ (by repeat (first | (with_reducible first | exact HB.out | apply bA | apply bN | apply bD | refine bS ?_ GE305.out) | exact HB.out)))); have n4_ := A0_ (kB (g := gb305) (o := .cells #[.slice A0_0 l0_0.length c0_0, .slice (some ad311) l0_1.length c0_1] 29 (0, 0)) (by (with_reducible repeat refine kA ?_ _); exact BK305.out) hb); have n5_ := A0_ (cB (by repeat (first | (with_reducible exact HR310_0.out) | (with_reducible refine cA ?_ _) | exact HR310_0.out)) hb); have n6_ := A0_ (bT (by repeat (first | (with_reducible first | exact HB.out | apply bA | apply bN | apply bD | refine bS ?_ GE305.out) | exact HB.out)) hb); clear HO1; clear HO308; clear HL310_0; clear BK305; clear HR310_0; clear HB; have HO1 := n0_; have HO308 := n1_; have HL310_0 := n2_; have HO314 := n3_; have BK305 := n4_; have HR310_0 := n5_; have HB := n6_; clear n0_ n1_ n2_ n3_ n4_ n5_ n6_; (try clear hb); (try clear hb2); (try clear hk); (try clear hi); (try clear ho0)))
       go_ret
       exact ⟨_, by first | rfl | (simp [*] <;> rfl), Kd.V_mono (Kd.R_V (by (with_reducible repeat (first | apply rA | apply rN | apply rD)); exact rM HO314.out (fun _ hk => hk.1.1))) (fun k_ hk => by first | exact ⟨(.inr (hk.1)), hk.2⟩ | exact (.inr (hk))), by repeat (first | (with_reducible first | exact HB.out | apply bA | apply bN | apply bD | refine bS ?_ GE305.out) | exact HB.out)⟩
      ·rw [if_neg c10] at H
       have c10b0 : decide ((rd l0_1 a2) < a2) = false := dF c10
       clear c10
       obtain rfl := sI H
       go_enter Try.func91, Try.ntmps91
       go_wp2_with (first | ((with_reducible refine gD (N := 3) rfl ?_); refine box_event ?hg (N := 3) ?hd (cs := #[.slice A0_0 l0_0.length c0_0, .slice A0_1 l0_1.length c0_1]) (t := 29) ?hr ?_; (case hd => rfl); (case hg => rfl); (case hr => first | (go_simp; done) | (go_simp; rfl)); intro gb305 hg w18 hbox hb; have n0_ := A0_ (Kd.V_below (Kd.V_elderB (by (with_reducible repeat apply Kd.V_alloc); exact HO1.out) gb305 (Nat.le_of_eq hg.symm)) hb); have n1_ := A0_ (bT (by repeat (first | (with_reducible first | exact HB.out | apply bA | apply bN | apply bD) | exact HB.out)) hb); have n2_ := A0_ (hbox); have n3_ := A0_ ((by rw [hg]; exact (bZ (by repeat (first | (with_reducible first | exact HB.out | apply bA | apply bN | apply bD) | exact HB.out))) : w.heap.size ≤ gb305)); have n4_ := A0_ ((by rw [hg]; exact (bZ (by repeat (first | (with_reducible first | exact HB.out | apply bA | apply bN | apply bD) | exact HB.out))) : w.heap.size ≤ gb305)); clear HO1; clear HB; have HO1 := n0_; have HB := n1_; have BK305 := n2_; have GW305 := n3_; have GE305 := n4_; clear n0_ n1_ n2_ n3_ n4_; clear hb hbox hg; have hcz19_0 : w18.cell? ⟨gb305, 0, none⟩ = some (.slice A0_0 l0_0.length c0_0) := (kC BK305.out 0).trans rfl; have hcz19_1 : w18.cell? ⟨gb305, 1, none⟩ = some (.slice A0_1 l0_1.length c0_1) := (kC BK305.out 1).trans rfl; have hfz19_0 := kF BK305.out 0; have hfz19_1 := kF BK305.out 1) | ((with_reducible refine gC (f := 107) rfl ?_); refine goesL_ (some 10) rfl rfl Try.func107 (by kernel_rfl) rfl #[.agg #[.slice A0_0 l0_0.length c0_0, .slice A0_1 l0_1.length c0_1]] rfl (by (try simp only [List.map_toArray, List.map_cons, List.map_nil]); first | done | rfl) ?_; (with_reducible refine (impl_edgeOf.calls k _ _ l0_0 _ _ l0_1 t306 _ ?side1 ?side2 ?side3 ?side4 A4.out).mono ?_); (case side1 => repeat (first | exact (cB HR0_0.out HB.out) | (with_reducible refine cA ?_ _))); (case side2 => exact HC0_0.out); (case side3 => repeat (first | exact (cB HR0_1.out HB.out) | (with_reducible refine cA ?_ _))); (case side4 => exact HC0_1.out); rintro e w20 ⟨v307, rfl, ho0, hb⟩; refine ⟨_, rfl, ?_⟩; have n0_ := A0_ (Kd.V_elder' (by (with_reducible repeat apply Kd.V_alloc); exact HO1.out) (Kd.R_base ho0) hb); have n1_ := A0_ (rL (Kd.R_newM (M := fun k_ => (w.heap.size ≤ k_)) ho0 (bZ (by repeat (first | (with_reducible first | exact HB.out | apply bA | apply bN | apply bD | refine bS ?_ GE305.out) | exact HB.out))) (fun k_ h_ => h_)) (bZ (by repeat (first | (with_reducible first | exact HB.out | apply bA | apply bN | apply bD | refine bS ?_ GE305.out) | exact HB.out)))); have n2_ := A0_ (kB (g := gb305) (o := .cells #[.slice A0_0 l0_0.length c0_0, .slice A0_1 l0_1.length c0_1] 29 (0, 0)) (by (with_reducible repeat refine kA ?_ _); exact BK305.out) hb); have n3_ := A0_ (bT (by repeat (first | (with_reducible first | exact HB.out | apply bA | apply bN | apply bD | refine bS ?_ GE305.out) | exact HB.out)) hb); clear HO1; clear BK305; clear HB; have HO1 := n0_; have HO308 := n1_; have BK305 := n2_; have HB := n3_; clear n0_ n1_ n2_ n3_; (try clear hb); (try clear hb2); (try clear hk); (try clear hi); (try clear ho0); obtain ⟨Ao21, co21, eo21⟩ := rS HO308.out; subst eo21; have p309 : 0 ≤ (a2 : Int) := oD (by assumption); have q309 : a2 < (t306.length : Int) := oD (by assumption); obtain ⟨ad309, e309, hx309_0⟩ := tI (rR HO308.out).2.2 a2 p309 q309; cases e309; replace p309 := eq_true p309; replace q309 := eq_true q309; have p310 : 0 ≤ ((rd t306 a2) : Int) := oD (by assumption); have q310 : (rd t306 a2) < (l1.length : Int) := oD (by assumption); obtain ⟨ad310, A310_0, c310_0, e310, hx310_0, hl310_0, hi310_0⟩ := at_L1 (Kd.V_reads' HO1.out).2.2 (rd t306 a2) p310 q310; cases e310; obtain ⟨ce310, hce310, hMe310, hcc310⟩ := Kd.V_get HO1.out [] (rd t306 a2) p310 (by first | exact q310 | exact oD (by assumption) | (have e_ := (Kd.V_reads' HO1.out).1; omega)); obtain ⟨ua310_0, uc310_0, rfl, ul310_0, ge310_0⟩ := Kd.FK_slice_open hMe310; have hv310_0 := hcc310 0 _ rfl; rw [Nat.add_zero, show ((Kd.slice 3 (Kd.int .i64))).sz = 1 from rfl, Nat.mul_one] at hv310_0; replace hv310_0 := sI (hv310_0.symm.trans hx310_0); injection hv310_0 with hva_ hvn_ hvc_; rw [hva_] at ge310_0; rw [hvc_] at ul310_0; have HL310_0 := A0_ (show Kd.V (Kd.int .i64) 3 _ w.heap.size _ _ (rd_L1 l1 (rd t306 a2)) from Kd.V_mk ul310_0 ge310_0); clear hva_ hvn_ hvc_ ge310_0 ul310_0; clear hcc310 hce310; have HR310_0 := A0_ hi310_0; have HC310_0 := A0_ hl310_0; clear hi310_0 hl310_0; replace p310 := eq_true p310; replace q310 := eq_true q310; have hcz22_0 : w20.cell? ⟨gb305, 0, none⟩ = some (.slice A0_0 l0_0.length c0_0) := (kC BK305.out 0).trans rfl; have hcz22_1 : w20.cell? ⟨gb305, 1, none⟩ = some (.slice A0_1 l0_1.length c0_1) := (kC BK305.out 1).trans rfl; have hfz22_0 := kF BK305.out 0; have hfz22_1 := kF BK305.out 1; have p311 : 0 ≤ (a2 : Int) := oD (by assumption); have q311 : a2 < (l0_1.length : Int) := oD (by assumption); obtain ⟨ad311, e311, hx311_0⟩ := tI HR0_1.out a2 p311 q311; cases e311; replace hx311_0 := (HB.out.cell (wL w _ hx311_0)).trans hx311_0; replace p311 := eq_true p311; replace q311 := eq_true q311))
       go_ret
       exact ⟨_, by first | rfl | (simp [*] <;> rfl), by (with_reducible repeat (first | apply Kd.V_alloc | apply Kd.V_drewN | apply Kd.V_drew)); exact Kd.V_mono HL310_0.out (fun _ hk => hk.1.1), by repeat (first | (with_reducible first | exact HB.out | apply bA | apply bN | apply bD | refine bS ?_ GE305.out) | exact HB.out)⟩
     ·rw [if_neg c9] at H
      exact absurd H (by simp)
    ·rw [if_neg c8] at H
     exact absurd H (by simp)
   ·rw [if_neg c7] at H
    exact absurd H (by simp)
  ·rw [if_neg c6] at H
   exact absurd H (by simp)
 ·rw [if_neg c5] at H
  exact absurd H (by simp)

end Go.Proofs.Ytmcgkckdnelcdaa.PFnExactCoverMap
