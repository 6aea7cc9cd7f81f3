-- Made by a program of this session (wip/tools) out of the loaded program; not trusted: Lean checks it.
import Derived.Test.YtjebcgbmlbemcaaGreatDoorPFnExecuteValuex0
import Derived.Test.YtjebcgbmlbemcaaGreatDoorPFnExecuteValuex7
import Derived.Test.YtjebcgbmlbemcaaGreatDoorPFnExecuteValuex10
-- packed
namespace Go.Proofs.YtjebcgbmlbemcaaGreatDoor.PFnExecuteValue
open Go.RowKit Go.Proofs.YtjebcgbmlbemcaaGreatDoorW.PrintWords Go.Proofs.YtjebcgbmlbemcaaGreatDoorW.PrintLast Go.Proofs.YtjebcgbmlbemcaaGreatDoorW.PrintMore
attribute [local go_sem] max2_int min2_int max_two min_two max_three min_three max_four min_four   -- for this text's walks alone
set_option linter.unusedVariables false
set_option linter.unusedSimpArgs false

/-! ### spec_l7Parts: function 86 -/
mutual
def spec_l7Parts.l0 : Nat → List Int → List Int → List Int → Int → List Int → List Int → Option (Int)
  | 0, _, _, _, _, _, _ => none
  | k + 1, x1, x5, x6, x7, x393000, x393001 => if x7 < (x5.length : Int) then (if 0 ≤ x7 then (if x7 < (x6.length : Int) then ((spec_l7Has.f k x1 (rd x6 x7)).bind fun t400 => (if t400 = true then (if x7 < (x393001.length : Int) then (spec_l7Parts.l0 k x1 (x5.set (x7 : Int).toNat (rd x393001 x7)) x6 (wrap64 (x7 + 1)) x393000 x393001) else (none)) else (spec_l7Parts.l0 k x1 x5 x6 (wrap64 (x7 + 1)) x393000 x393001))) else (none)) else (none)) else ((spec_l1Orbits.f k x393000 x5).bind fun t403 => (spec_l7Parts.l1 k t403 0 0))
def spec_l7Parts.l1 : Nat → List Int → Int → Int → Option (Int)
  | 0, _, _, _ => none
  | k + 1, x8, x9, x10 => if x10 < (x8.length : Int) then (if 0 ≤ x10 then (if (rd x8 x10) = x10 then (spec_l7Parts.l1 k x8 (wrap64 (x9 + 1)) (wrap64 (x10 + 1))) else (spec_l7Parts.l1 k x8 x9 (wrap64 (x10 + 1)))) else (none)) else (some x9)
end
def spec_l7Parts.f (k : Nat) (l0_0 : List Int) (l0_1 : List Int) (l1 : List Int) : Option (Int) := (spec_l1Same.f k (l0_1.length : Int)).bind fun t393 => ((spec_l7Edges.f k l0_0 l0_1).bind fun t396 => (spec_l7Parts.l0 k l1 t393 t396 0 l0_0 l0_1))
set_option maxHeartbeats 8000000 in
set_option maxRecDepth 100000 in
theorem spec_l7Parts.calls (k : Nat) (A0_0 : Option Addr) (c0_0 : Nat) (l0_0 : List Int) (A0_1 : Option Addr) (c0_1 : Nat) (l0_1 : List Int) (A1 : Option Addr) (c1 : Nat) (l1 : List Int) (r : Int) (w : World) (hr0_0 : Kd.C (Kd.int .i64) w A0_0 l0_0.length l0_0) (hc0_0 : l0_0.length ≤ c0_0) (hr0_1 : Kd.C (Kd.int .i64) w A0_1 l0_1.length l0_1) (hc0_1 : l0_1.length ≤ c0_1) (hr1 : Kd.C (Kd.int .i64) w A1 l1.length l1) (hc1 : l1.length ≤ c1) (h : spec_l7Parts.f k l0_0 l0_1 l1 = some r) :
    Calls Tryz.prog 86 #[.agg #[.slice A0_0 l0_0.length c0_0, .slice A0_1 l0_1.length c0_1], .slice A1 l1.length c1] w fun e w' => e = .returned (.int .i64 r) ∧ Below w.heap.size w w' := by
 have hu25 := Tryz.underlying25; have HR0_0 := A0_ hr0_0; have HC0_0 := A0_ hc0_0; clear hr0_0 hc0_0; have HR0_1 := A0_ hr0_1; have HC0_1 := A0_ hc0_1; clear hr0_1 hc0_1; have HR1 := A0_ hr1; have HC1 := A0_ hc1; clear hr1 hc1
 have HB := A0_ (Below.refl w.heap.size w)
 have H : ((spec_l1Same.f k (l0_1.length : Int)).bind fun t393 => ((spec_l7Edges.f k l0_0 l0_1).bind fun t396 => (spec_l7Parts.l0 k l1 t393 t396 0 l0_0 l0_1))) = some r := h
 clear h; obtain ⟨t393, A3, H⟩ := zbind H; obtain ⟨t396, A4, H⟩ := zbind H; have H' := A0_ H; clear H
 go_enter Tryz.func86, Tryz.ntmps86
 go_wp2_with (first | ((with_reducible refine gD (N := 2) rfl ?_); refine zX (N := 2) (cs := #[.slice A0_0 l0_0.length c0_0, .slice A0_1 l0_1.length c0_1]) (t := 25) ?_; intro gb392 hg w5 hbox hb; have BK392 := A0_ (hbox); have GW392 := zG hg HB; have GE392 := zG hg HB; replace HB := zB HB hb; clear hb hbox hg; have hcz6_0 := zc0 BK392; have hcz6_1 := zc1 BK392; have hfz6_0 := kF BK392.out 0; have hfz6_1 := kF BK392.out 1) | ((with_reducible refine gC (f := 95) rfl ?_); refine zJ (some 14) Tryz.func95 #[.int .i64 (l0_1.length : Int)] ?_; (with_reducible refine (spec_l1Same.calls k (l0_1.length : Int) t393 _ A3.out).mono ?_); rintro e w7 ⟨v394, rfl, ho0, hb⟩; refine ⟨_, rfl, ?_⟩; have HO395 := A0_ (rL ho0 (bZ (zB_ HB))); replace BK392 := zK BK392 hb; replace HB := zB HB hb; (try clear hb); (try clear ho0); have hcz8_0 := zc0 BK392; have hcz8_1 := zc1 BK392; have hfz8_0 := kF BK392.out 0; have hfz8_1 := kF BK392.out 1) | ((with_reducible refine gC (f := 94) rfl ?_); refine zJ (some 16) Tryz.func94 #[.agg #[.slice A0_0 l0_0.length c0_0, .slice A0_1 l0_1.length c0_1]] ?_; (with_reducible refine (spec_l7Edges.calls k _ _ l0_0 _ _ l0_1 t396 _ ?side1 ?side2 ?side3 ?side4 A4.out).mono ?_); (case side1 => exact zC HR0_0 HB); (case side2 => exact HC0_0.out); (case side3 => exact zC HR0_1 HB); (case side4 => exact HC0_1.out); rintro e w9 ⟨v397, rfl, ho0, hb⟩; refine ⟨_, rfl, ?_⟩; have HO398 := A0_ (rL (Kd.R_new' ho0 (rX (zR_ HO395))) (bZ (zB_ HB))); replace HO395 := A0_ (Kd.R_elder' (zR_ HO395) (Kd.R_base ho0) hb); replace BK392 := zK BK392 hb; replace HB := zB HB hb; (try clear hb); (try clear ho0)))
 go_loopg [7] k (fun kq v7 w' => ∃ (x5_1 : List Int) (x7_1 : Int), v7 = .int .i64 x7_1 ∧ Aside0 (spec_l7Parts.l0 kq l1 x5_1 t396 x7_1 l0_0 l0_1 = some r) ∧ Aside0 (kq ≤ k) ∧ Aside0 (Kd.R (Kd.int .i64) 3 w' w.heap.size (fun k_ => some k_ ≠ (v397 : Value).ownBlock) v394 x5_1) ∧ Aside0 (Kd.R (Kd.int .i64) 3 w' w.heap.size (fun k_ => some k_ ≠ (v394 : Value).ownBlock) v397 t396) ∧ Aside0 (w'.heap[gb392]? = some (.cells #[(.slice A0_0 l0_0.length c0_0), (.slice A0_1 l0_1.length c0_1)] 25 (0, 0))) ∧ Aside0 (Below w.heap.size w w'))
 case atStart => exact ⟨(t393), (0), zt, H', ⟨Nat.le_refl _⟩, ⟨zmR HO395 (fun _ hk => hk.2)⟩, ⟨zmR HO398 (fun _ hk => hk.2)⟩, ⟨zK_ BK392⟩, ⟨zB_ HB⟩⟩
 case round =>
  clear H'; (try clear c1); (try clear p2); (try clear c8); (try clear c9); (try clear hcz6_0); (try clear hcz6_1); (try clear hcz8_0); (try clear hcz8_1); (try clear hfz6_0); (try clear hfz6_1); (try clear hfz8_0); (try clear hfz8_1); obtain ⟨x5_1, x7_1, rfl, HA, HK1, HO_5, HO_6, BK392, HB⟩ := hrel
  cases gk with
  | zero => exact absurd HA.out (by simp [spec_l7Parts.l0])
  | succ k1 =>
   have H := HA.out; clear HA; simp only [spec_l7Parts.l0] at H
   by_cases c10 : x7_1 < (x5_1.length : Int)
   ·rw [if_pos c10] at H
    have c10b0 := dT c10; clear c10
    by_cases c11 : 0 ≤ x7_1
    ·rw [if_pos c11] at H
     have c11b0 := dT c11; clear c11
     by_cases c12 : x7_1 < (t396.length : Int)
     ·rw [if_pos c12] at H
      have c12b0 := dT c12; clear c12; obtain ⟨t400, A13, H⟩ := zbind H
      by_cases c14 : t400 = true
      ·subst c14
       rw [if_pos rfl] at H
       by_cases c15 : x7_1 < (l0_1.length : Int)
       ·rw [if_pos c15] at H
        have c15b0 := dT c15; clear c15
        obtain ⟨y402, hy402⟩ : ∃ y_ : List Int, y_ = (x5_1.set (x7_1 : Int).toNat (rd l0_1 x7_1)) := ⟨_, rfl⟩
        replace H : (spec_l7Parts.l0 k1 l1 y402 t396 (wrap64 (x7_1 + 1)) l0_0 l0_1) = some r := zH hy402 H
        have Ny402 := A0_ hy402; clear hy402; have H' := A0_ H; clear H; obtain ⟨Ao17, co17, eo17⟩ := rS HO_5.out; subst eo17; obtain ⟨Ao18, co18, eo18⟩ := rS HO_6.out; subst eo18
        have p399 : 0 ≤ (x7_1 : Int) := zd
        have q399 : x7_1 < (t396.length : Int) := zd
        obtain ⟨ad399, e399, hx399_0⟩ := tI (rR HO_6.out).2.2 x7_1 p399 q399
        cases e399
        replace p399 := eq_true p399; replace q399 := eq_true q399
        go_wp2_with (first | ((with_reducible refine gC (f := 118) rfl ?_); refine zJ (some 28) Tryz.func118 #[.slice A1 l1.length c1, .int .i64 (rd t396 x7_1)] ?_; (with_reducible refine (spec_l7Has.calls k1 _ _ l1 (rd t396 x7_1) true _ ?side1 ?side2 A13.out).mono ?_); (case side1 => exact zC HR1 HB); (case side2 => exact HC1.out); rintro e w' ⟨rfl, ⟨nd, rfl⟩⟩; refine ⟨_, rfl, ?_⟩; (try (rw [drewN_self wr]; generalize hq_ : World.drewN wr _ = wr; have n0_ : Aside0 (Kd.R (Kd.int .i64) 3 wr w.heap.size (fun k_ => some k_ ≠ (.slice (some ad399) t396.length co18 : Value).ownBlock) (.slice Ao17 x5_1.length co17) x5_1) := ⟨by rw [← hq_]; exact (zR_ HO_5)⟩; have n1_ : Aside0 (Kd.R (Kd.int .i64) 3 wr w.heap.size (fun k_ => some k_ ≠ (.slice Ao17 x5_1.length co17 : Value).ownBlock) (.slice (some ad399) t396.length co18) t396) := ⟨by rw [← hq_]; exact (zR_ HO_6)⟩; have n2_ : Aside0 (wr.heap[gb392]? = some (.cells #[.slice A0_0 l0_0.length c0_0, .slice A0_1 l0_1.length c0_1] 25 (0, 0))) := ⟨by rw [← hq_]; exact (zK_ BK392)⟩; have n3_ : Aside0 (Below w.heap.size w wr) := ⟨by rw [← hq_]; exact (zB_ HB)⟩; clear HO_5 HO_6 BK392 HB hq_; have HO_5 := n0_; have HO_6 := n1_; have BK392 := n2_; have HB := n3_; clear n0_ n1_ n2_ n3_)); have hcz19_0 := zc0 BK392; have hcz19_1 := zc1 BK392; have hfz19_0 := kF BK392.out 0; have hfz19_1 := kF BK392.out 1; have p401 : 0 ≤ (x7_1 : Int) := zd; have q401 : x7_1 < (l0_1.length : Int) := zd; obtain ⟨ad401, e401, hx401_0⟩ := tI HR0_1.out x7_1 p401 q401; cases e401; try replace hx401_0 := (HB.out.cell (wL w _ hx401_0)).trans hx401_0; replace p401 := eq_true p401; replace q401 := eq_true q401; have p16 : 0 ≤ (x7_1 : Int) := zd; have q16 : (x7_1 : Int) < ((x5_1.length : Int) : Int) := zd; obtain ⟨go16, co16, eo16, gb16, gl16, cl16, HG16⟩ := Kd.R_form HO_5.out (by omega); (first | cases eo16 | (injection eo16 with ea_ en_ ec_; (first | subst ea_ | (injection ea_ with ea_; subst ea_)); subst ec_; clear en_)); have GB16 := A0_ gb16; have GG16 := A0_ HG16; clear gb16 gl16 HG16; obtain ⟨hx16_0, hf16_0⟩ := Kd.R_celln 0 HO_5.out (x7_1 : Int) p16 q16; replace p16 := eq_true p16; replace q16 := eq_true q16; obtain ⟨hy20_, hz20_⟩ := Kd.R_celln 0 HO_5.out (x7_1 : Int) (zd) (zd); have HP20 := Kd.R_putg HO_5.out (x7_1 : Int) (rd l0_1 x7_1)) | ((with_reducible refine gS (t := 3) (p := 36) rfl ?_); refine store_event (t := 3) (p := 36) (v := ?vo_w21) (w1 := (wr.setCell ⟨go16, (x7_1 : Int).toNat, none⟩ (.int .i64 (rd l0_1 x7_1)))) ?hg ?ho ?hn ?hr ?_; (case ho => rfl); (case hg => rfl); (case hn => rfl); (case hr => first | (go_simp; done) | (go_simp; rfl)); intro w21 hw; have hg : wr.grownBy w21 (some go16) := (by rw [hw]; exact HP20.2); have hp_ : Kd.R (Kd.int .i64) 3 w21 w.heap.size (fun k_ => some k_ ≠ (.slice (some ad399) t396.length co18 : Value).ownBlock) (.slice (some ⟨go16, 0, none⟩) x5_1.length co17) y402 := (by rw [hw, Ny402.out]; exact HP20.1); clear HP20; replace HO_6 := A0_ (Kd.R_after (v := (.slice (some ⟨go16, 0, none⟩) x5_1.length co17)) (v1 := (.slice (some ⟨go16, 0, none⟩) x5_1.length co17)) (ok := (fun _ => True)) (zmR HO_6 (fun _ hk => ⟨trivial, hk⟩)) hg (.inl rfl)); replace BK392 := A0_ (blk_grown (g := gb392) (o := .cells #[.slice A0_0 l0_0.length c0_0, .slice (some ad401) l0_1.length c0_1] 25 (0, 0)) (zK_ BK392) hg (Kd.R_ne HO_5.out BK392.out (by decide))); replace HO_5 := A0_ (hp_); replace HB := A0_ ((by rw [hw]; exact bS (HB.out) GB16.out : Below w.heap.size w w21)); clear hg hw hp_))
        go_roundg k1
        case measure => have := HK1.out; omega
        case rel => exact ⟨(y402), (wrap64 (x7_1 + 1)), zt, H', ⟨by have := HK1.out; omega⟩, ⟨zR_ HO_5⟩, ⟨zmR HO_6 (fun _ hk => hk.2)⟩, ⟨zK_ BK392⟩, ⟨zB_ HB⟩⟩
       rw [if_neg c15] at H
       exact absurd H (by simp)
      replace c14 := Bool.eq_false_iff.mpr c14; subst c14
      rw [if_neg (show ¬ (false = true) by decide)] at H
      have H' := A0_ H; clear H; obtain ⟨Ao22, co22, eo22⟩ := rS HO_5.out; subst eo22; obtain ⟨Ao23, co23, eo23⟩ := rS HO_6.out; subst eo23
      have p399 : 0 ≤ (x7_1 : Int) := zd
      have q399 : x7_1 < (t396.length : Int) := zd
      obtain ⟨ad399, e399, hx399_0⟩ := tI (rR HO_6.out).2.2 x7_1 p399 q399
      cases e399
      replace p399 := eq_true p399; replace q399 := eq_true q399
      go_wp2_with (first | ((with_reducible refine gC (f := 118) rfl ?_); refine zJ (some 28) Tryz.func118 #[.slice A1 l1.length c1, .int .i64 (rd t396 x7_1)] ?_; (with_reducible refine (spec_l7Has.calls k1 _ _ l1 (rd t396 x7_1) false _ ?side1 ?side2 A13.out).mono ?_); (case side1 => exact zC HR1 HB); (case side2 => exact HC1.out); rintro e w' ⟨rfl, ⟨nd, rfl⟩⟩; refine ⟨_, rfl, ?_⟩))
      go_roundg k1
      case measure => have := HK1.out; omega
      case rel => exact ⟨(x5_1), (wrap64 (x7_1 + 1)), zt, H', ⟨by have := HK1.out; omega⟩, ⟨zR_ HO_5⟩, ⟨zR_ HO_6⟩, ⟨zK_ BK392⟩, ⟨zB_ HB⟩⟩
     rw [if_neg c12] at H
     exact absurd H (by simp)
    rw [if_neg c11] at H
    exact absurd H (by simp)
   rw [if_neg c10] at H; have c10b0 := dF c10; clear c10; obtain ⟨t403, A24, H⟩ := zbind H; have H' := A0_ H; clear H; obtain ⟨Ao25, co25, eo25⟩ := rS HO_5.out; subst eo25; have hcz26_0 := zc0 BK392; have hcz26_1 := zc1 BK392; have hfz26_0 := kF BK392.out 0; have hfz26_1 := kF BK392.out 1
   go_wp2_with (first | ((with_reducible refine gC (f := 57) rfl ?_); refine zJ (some 40) Tryz.func57 #[.slice A0_0 l0_0.length c0_0, .slice Ao25 x5_1.length co25] ?_; (with_reducible refine (spec_l1Orbits.calls k1 _ _ l0_0 _ _ x5_1 t403 _ ?side1 ?side2 ?side3 ?side4 A24.out).mono ?_); (case side1 => exact zC HR0_0 HB); (case side2 => exact HC0_0.out); (case side3 => exact zD HO_5); (case side4 => exact (rR HO_5.out).2.1); rintro e w27 ⟨v404, rfl, ho0, hb⟩; refine ⟨_, rfl, ?_⟩; have HO405 := A0_ (rL (Kd.R_new' (Kd.R_new' ho0 (rX (zR_ HO_5))) (rX (zR_ HO_6))) (bZ (zB_ HB))); replace HO_5 := A0_ (Kd.R_elder' (zR_ HO_5) (Kd.R_base ho0) hb); replace HO_6 := A0_ (Kd.R_elder' (zR_ HO_6) (Kd.R_base ho0) hb); replace BK392 := zK BK392 hb; replace HB := zB HB hb; (try clear hb); (try clear ho0)))
   go_loopg [9, 10] k1 (fun kq v9 v10 w' => ∃ (x9_2 : Int) (x10_2 : Int), v9 = .int .i64 x9_2 ∧ v10 = .int .i64 x10_2 ∧ Aside0 (spec_l7Parts.l1 kq t403 x9_2 x10_2 = some r) ∧ Aside0 (kq ≤ k1) ∧ Aside0 (Kd.R (Kd.int .i64) 3 w' w.heap.size (fun _ => True) v404 t403) ∧ Aside0 (w'.heap[gb392]? = some (.cells #[(.slice A0_0 l0_0.length c0_0), (.slice A0_1 l0_1.length c0_1)] 25 (0, 0))) ∧ Aside0 (Below w.heap.size w w'))
   case atStart => exact ⟨(0), (0), zt, zt, H', ⟨Nat.le_refl _⟩, ⟨zmR HO405 (fun _ hk => trivial)⟩, ⟨zK_ BK392⟩, ⟨zB_ HB⟩⟩
   case round =>
    clear H'; (try clear c1); (try clear p1); (try clear q1); (try clear hx1); (try clear p2); (try clear p3); (try clear q3); (try clear hx3); (try clear p4); (try clear q4); (try clear hx4); (try clear c5); (try clear p6); (try clear c8); (try clear c9); (try clear c10); (try clear c10b0); (try clear c11); (try clear c11b0); (try clear c12); (try clear c12b0); (try clear c14); (try clear c15); (try clear c15b0); (try clear p16); (try clear q16); (try clear hx16); (try clear hf16); (try clear hcz19_0); (try clear hcz19_1); (try clear hcz26_0); (try clear hcz26_1); (try clear hcz6_0); (try clear hcz6_1); (try clear hcz8_0); (try clear hcz8_1); (try clear hfz19_0); (try clear hfz19_1); (try clear hfz26_0); (try clear hfz26_1); (try clear hfz6_0); (try clear hfz6_1); (try clear hfz8_0); (try clear hfz8_1); (try clear hx16_0); (try clear hx399_0); (try clear hx401_0); (try clear p16); (try clear p2); (try clear p399); (try clear p401); (try clear q16); (try clear q399); (try clear q401); obtain ⟨x9_2, x10_2, rfl, rfl, HA, HK2, HO_8, BK392, HB⟩ := hrel
    cases gk with
    | zero => exact absurd HA.out (by simp [spec_l7Parts.l1])
    | succ k2 =>
     have H := HA.out; clear HA; simp only [spec_l7Parts.l1] at H
     by_cases c28 : x10_2 < (t403.length : Int)
     ·rw [if_pos c28] at H
      have c28b0 := dT c28; clear c28
      by_cases c29 : 0 ≤ x10_2
      ·rw [if_pos c29] at H
       have c29b0 := dT c29; clear c29
       by_cases c30 : (rd t403 x10_2) = x10_2
       ·rw [if_pos c30] at H
        have c30b0 : ((rd t403 x10_2) == x10_2) = true := beq_iff_eq.mpr c30
        have c30b1 : ((rd t403 x10_2) != x10_2) = false := bne_eq_false_iff_eq.mpr c30
        clear c30; have H' := A0_ H; clear H; obtain ⟨Ao31, co31, eo31⟩ := rS HO_8.out; subst eo31
        have p406 : 0 ≤ (x10_2 : Int) := zd
        have q406 : x10_2 < (t403.length : Int) := zd
        obtain ⟨ad406, e406, hx406_0⟩ := tI (rR HO_8.out).2.2 x10_2 p406 q406
        cases e406
        replace p406 := eq_true p406; replace q406 := eq_true q406
        go_wp2
        go_roundg k2
        case measure => have := HK1.out; have := HK2.out; omega
        case rel => exact ⟨(wrap64 (x9_2 + 1)), (wrap64 (x10_2 + 1)), zt, zt, H', ⟨by have := HK1.out; have := HK2.out; omega⟩, ⟨zR_ HO_8⟩, ⟨zK_ BK392⟩, ⟨zB_ HB⟩⟩
       rw [if_neg c30] at H
       have c30b0 : ((rd t403 x10_2) == x10_2) = false := beq_eq_false_iff_ne.mpr c30
       have c30b1 : ((rd t403 x10_2) != x10_2) = true := bne_iff_ne.mpr c30
       have H' := A0_ H; clear H; obtain ⟨Ao32, co32, eo32⟩ := rS HO_8.out; subst eo32
       have p406 : 0 ≤ (x10_2 : Int) := zd
       have q406 : x10_2 < (t403.length : Int) := zd
       obtain ⟨ad406, e406, hx406_0⟩ := tI (rR HO_8.out).2.2 x10_2 p406 q406
       cases e406
       replace p406 := eq_true p406; replace q406 := eq_true q406
       go_wp2
       go_roundg k2
       case measure => have := HK1.out; have := HK2.out; omega
       case rel => exact ⟨(x9_2), (wrap64 (x10_2 + 1)), zt, zt, H', ⟨by have := HK1.out; have := HK2.out; omega⟩, ⟨zR_ HO_8⟩, ⟨zK_ BK392⟩, ⟨zB_ HB⟩⟩
      rw [if_neg c29] at H
      exact absurd H (by simp)
     rw [if_neg c28] at H; have c28b0 := dF c28; clear c28; obtain rfl := sI H; obtain ⟨Ao33, co33, eo33⟩ := rS HO_8.out; subst eo33
     go_wp2
     go_ret
     exact ⟨by first | rfl | (simp [*] <;> rfl), zB_ HB⟩

/-! ### spec_l1Cycles: function 88 -/
mutual
def spec_l1Cycles.l0 : Nat → List Int → List (List Int) → List Bool → Int → Option ((List (List Int)))
  | 0, _, _, _, _ => none
  | k + 1, x0, x3, x4, x5 => if x5 < (x0.length : Int) then (if 0 ≤ x5 then (if x5 < (x4.length : Int) then (if rdOf false x4 x5 = true then (spec_l1Cycles.l0 k x0 x3 x4 (wrap64 (x5 + 1))) else (spec_l1Cycles.l1 k x0 x3 x4 x5 (([] : List Int)) x5)) else (none)) else (none)) else (some x3)
def spec_l1Cycles.l1 : Nat → List Int → List (List Int) → List Bool → Int → List Int → Int → Option ((List (List Int)))
  | 0, _, _, _, _, _, _ => none
  | k + 1, x0, x3, x4, x5, x6, x7 => if 0 ≤ x7 then (if x7 < (x4.length : Int) then (if rdOf false x4 x7 = true then (if x3.length < 5864062014805 then (spec_l1Cycles.l0 k x0 (x3 ++ [x6]) x4 (wrap64 (x5 + 1))) else (none)) else (if x6.length < 17592186044416 then (if x7 < (x0.length : Int) then (spec_l1Cycles.l1 k x0 x3 (x4.set (x7 : Int).toNat true) x5 (x6 ++ [x7]) (rd x0 x7)) else (none)) else (none))) else (none)) else (none)
end
def spec_l1Cycles.f (k : Nat) (l0 : List Int) : Option ((List (List Int))) := if 0 ≤ (l0.length : Int) then (if ((l0.length : Int) : Int).toNat ≤ 281474976710656 then (spec_l1Cycles.l0 k l0 (([] : List (List Int))) (List.replicate ((l0.length : Int) : Int).toNat false) 0) else (none)) else (none)
set_option maxHeartbeats 8000000 in
set_option maxRecDepth 100000 in
theorem spec_l1Cycles.calls (k : Nat) (A0 : Option Addr) (c0 : Nat) (l0 : List Int) (r : List (List Int)) (w : World) (hr0 : Kd.C (Kd.int .i64) w A0 l0.length l0) (hc0 : l0.length ≤ c0) (h : spec_l1Cycles.f k l0 = some r) :
    Calls Tryz.prog 88 #[.slice A0 l0.length c0] w fun e w' => ∃ v0_ : Value, e = .returned (v0_) ∧ Kd.S (Kd.slice 3 (Kd.int .i64)) 23 w' w.heap.size (fun _ => True) v0_ r ∧ Below w.heap.size w w' := by
 have HR0 := A0_ hr0; have HC0 := A0_ hc0; clear hr0 hc0
 have HB := A0_ (Below.refl w.heap.size w)
 have H : (if 0 ≤ (l0.length : Int) then (if ((l0.length : Int) : Int).toNat ≤ 281474976710656 then (spec_l1Cycles.l0 k l0 (([] : List (List Int))) (List.replicate ((l0.length : Int) : Int).toNat false) 0) else (none)) else (none)) = some r := h
 clear h
 obtain ⟨y407, hy407⟩ : ∃ y_ : List (List Int), y_ = (([] : List (List Int))) := ⟨_, rfl⟩
 replace H : (if 0 ≤ (l0.length : Int) then (if ((l0.length : Int) : Int).toNat ≤ 281474976710656 then (spec_l1Cycles.l0 k l0 y407 (List.replicate ((l0.length : Int) : Int).toNat false) 0) else (none)) else (none)) = some r := zH hy407 H
 have Ny407 := A0_ hy407; clear hy407
 by_cases c2 : 0 ≤ (l0.length : Int)
 ·rw [if_pos c2] at H
  have c2b0 := eq_true c2; have c2b1 := dT c2; clear c2
  by_cases c3 : ((l0.length : Int) : Int).toNat ≤ 281474976710656
  ·rw [if_pos c3] at H
   have c3b0 := eq_true c3; have c3b1 := dT c3; clear c3
   obtain ⟨y410, hy410⟩ : ∃ y_ : List Bool, y_ = (List.replicate ((l0.length : Int) : Int).toNat false) := ⟨_, rfl⟩
   replace H : (spec_l1Cycles.l0 k l0 y407 y410 0) = some r := zH hy410 H
   have Ny410 := A0_ hy410; clear hy410; have H' := A0_ H; clear H
   go_enter Tryz.func88, Tryz.ntmps88
   go_wp2_with (first | ((with_reducible refine gD (N := 8) rfl ?_); refine Kd.S_lit (Kd.slice 3 (Kd.int .i64)) _ 23 ?hg (N := 8) ?hd (xs := ([] : List (List Int))) (inner := []) (ok := fun _ => True) (okp := fun _ => True) ?hr ?hp (fun _ hk => hk) trivial (Below.refl _ _) (Nat.le_refl _) (by simp) ?_; (case hd => rfl); (case hg => rfl); (case hr => first | (go_simp; done) | (go_simp; rfl)); (case hp => exact (Reps.none _ _)); intro v408 w4 ho5 hb hg_ hnew_; clear hg_ hnew_; (first | rw [← Ny407.out] at ho5 | (simp only [Int.reduceToNat] at ho5; rw [← Ny407.out] at ho5)); have HO409 := A0_ (Kd.S_lower ho5 (bZ (zB_ HB))); replace HB := zB HB hb; clear hb ho5) | ((with_reducible refine gD (N := 11) rfl ?_); refine Kd.R_make Kd.bool _ 4 rfl (N := 11) rfl 97 _ _ rfl (l0.length : Int) rfl rfl Tryz.underlying97 (.bool false) 1 info4 rfl (by decide) (by omega) false (ok := fun _ => True) (okp := fun _ => True) rfl (fun _ hk => hk) trivial (zd) (Nat.le_trans (Nat.mul_le_mul_right _ (zd : (l0.length : Int).toNat ≤ 281474976710656)) (by omega)) (Below.refl _ _) (Nat.le_refl _) ?_; intro v411 w6 ho7 hb hg_ hnew_; clear hg_ hnew_; (first | rw [← Ny410.out] at ho7 | (simp only [Int.reduceToNat] at ho7; rw [← Ny410.out] at ho7)); replace HO409 := zS HO409 hb; have HO412 := A0_ (rL ho7 (bZ (zB_ HB))); replace HB := zB HB hb; clear hb ho7))
   go_loopg [3, 5] k (fun kq v3 v5 w' => ∃ (x3_1 : List (List Int)) (x4_1 : List Bool) (x5_1 : Int), v5 = .int .i64 x5_1 ∧ Aside0 (spec_l1Cycles.l0 kq l0 x3_1 x4_1 x5_1 = some r) ∧ Aside0 (kq ≤ k) ∧ Aside0 (Kd.S (Kd.slice 3 (Kd.int .i64)) 23 w' w.heap.size (fun _ => True) v3 x3_1) ∧ Aside0 (Kd.R Kd.bool 4 w' w.heap.size (fun _ => True) v411 x4_1) ∧ Aside0 (Below w.heap.size w w'))
   case atStart => exact ⟨(y407), (y410), (0), zt, H', ⟨Nat.le_refl _⟩, ⟨zS_ HO409⟩, ⟨zR_ HO412⟩, ⟨zB_ HB⟩⟩
   case round =>
    clear H'; (try clear c2); (try clear c2b0); (try clear c2b1); (try clear p2); (try clear c3); (try clear c3b0); (try clear c3b1); obtain ⟨x3_1, x4_1, x5_1, rfl, HA, HK1, HO_3, HO_4, HB⟩ := hrel
    cases gk with
    | zero => exact absurd HA.out (by simp [spec_l1Cycles.l0])
    | succ k1 =>
     have H := HA.out; clear HA; simp only [spec_l1Cycles.l0] at H
     by_cases c8 : x5_1 < (l0.length : Int)
     ·rw [if_pos c8] at H
      have c8b0 := dT c8; clear c8
      by_cases c9 : 0 ≤ x5_1
      ·rw [if_pos c9] at H
       have c9b0 := dT c9; clear c9
       by_cases c10 : x5_1 < (x4_1.length : Int)
       ·rw [if_pos c10] at H
        have c10b0 := dT c10; clear c10
        obtain ⟨bq11, hbq11⟩ : ∃ b_ : Bool, b_ = (rdOf false x4_1 x5_1) := ⟨_, rfl⟩
        replace H : (if bq11 = true then (spec_l1Cycles.l0 k1 l0 x3_1 x4_1 (wrap64 (x5_1 + 1))) else (spec_l1Cycles.l1 k1 l0 x3_1 x4_1 x5_1 (([] : List Int)) x5_1)) = some r := by rw [← hbq11] at H; exact H
        have Nbq11 := A0_ hbq11; clear hbq11
        by_cases c12 : bq11 = true
        ·subst c12
         rw [if_pos rfl] at H; have H' := A0_ H; clear H; obtain ⟨Ao13, co13, eo13⟩ := rS HO_4.out; subst eo13
         have p413 : 0 ≤ (x5_1 : Int) := zd
         have q413 : x5_1 < (x4_1.length : Int) := zd
         obtain ⟨ad413, e413, hx413_0⟩ := Kd.at_bool (rR HO_4.out).2.2 x5_1 p413 q413
         (try rw [← Nbq11.out] at hx413_0)
         cases e413
         replace p413 := eq_true p413; replace q413 := eq_true q413
         go_wp2
         go_roundg k1
         case measure => have := HK1.out; omega
         case rel => exact ⟨(x3_1), (x4_1), (wrap64 (x5_1 + 1)), zt, H', ⟨by have := HK1.out; omega⟩, ⟨zS_ HO_3⟩, ⟨zR_ HO_4⟩, ⟨zB_ HB⟩⟩
        replace c12 := Bool.eq_false_iff.mpr c12; subst c12
        rw [if_neg (show ¬ (false = true) by decide)] at H
        obtain ⟨y414, hy414⟩ : ∃ y_ : List Int, y_ = (([] : List Int)) := ⟨_, rfl⟩
        replace H : (spec_l1Cycles.l1 k1 l0 x3_1 x4_1 x5_1 y414 x5_1) = some r := zH hy414 H
        have Ny414 := A0_ hy414; clear hy414; have H' := A0_ H; clear H; obtain ⟨Ao14, co14, eo14⟩ := rS HO_4.out; subst eo14
        have p413 : 0 ≤ (x5_1 : Int) := zd
        have q413 : x5_1 < (x4_1.length : Int) := zd
        obtain ⟨ad413, e413, hx413_0⟩ := Kd.at_bool (rR HO_4.out).2.2 x5_1 p413 q413
        (try rw [← Nbq11.out] at hx413_0)
        cases e413
        replace p413 := eq_true p413; replace q413 := eq_true q413
        go_wp2_with (first | ((with_reducible refine gD (N := 22) rfl ?_); refine Kd.R_lit (Kd.int .i64) _ 3 ?hg (N := 22) ?hd (xs := ([] : List Int)) (inner := []) (ok := fun _ => True) (okp := fun _ => True) ?hr ?hp (fun _ hk => hk) trivial (Below.refl _ _) (Nat.le_refl _) (by simp) ?_; (case hd => rfl); (case hg => rfl); (case hr => first | (go_simp; done) | (go_simp; rfl)); (case hp => exact (Reps.none _ _)); intro v415 w15 ho16 hb hg_ hnew_; clear hg_ hnew_; (first | rw [← Ny414.out] at ho16 | (simp only [Int.reduceToNat] at ho16; rw [← Ny414.out] at ho16)); replace HO_3 := A0_ (Kd.S_elder' (zS_ HO_3) (Kd.R_base ho16) hb); replace HO_4 := zR HO_4 hb; have HO416 := A0_ (rL ho16 (bZ (zB_ HB))); replace HB := zB HB hb; clear hb ho16))
        (try generalize Value.pointer (some (ad413.add (x5_1 : Int).toNat)) = pz_)
        go_loopg [6, 7] k1 (fun kq v6 v7 w' => ∃ (x4_2 : List Bool) (x6_2 : List Int) (x7_2 : Int), v7 = .int .i64 x7_2 ∧ Aside0 (spec_l1Cycles.l1 kq l0 x3_1 x4_2 x5_1 x6_2 x7_2 = some r) ∧ Aside0 (kq ≤ k1) ∧ Aside0 (Kd.S (Kd.slice 3 (Kd.int .i64)) 23 w' w.heap.size (fun k_ => some k_ ≠ (v6 : Value).ownBlock) u3 x3_1) ∧ Aside0 (Kd.R Kd.bool 4 w' w.heap.size (fun _ => True) (.slice (some ad413) x4_1.length co14) x4_2) ∧ Aside0 (Kd.R (Kd.int .i64) 3 w' w.heap.size (fun _ => True) v6 x6_2) ∧ Aside0 (Below w.heap.size w w'))
        case atStart => exact ⟨(x4_1), (y414), (x5_1), zt, H', ⟨Nat.le_refl _⟩, ⟨zmS HO_3 (fun _ hk => hk.2)⟩, ⟨zR_ HO_4⟩, ⟨zR_ HO416⟩, ⟨zB_ HB⟩⟩
        case round =>
         clear H'; (try clear c1); (try clear q1); (try clear c2); (try clear c2b0); (try clear c2b1); (try clear p2); (try clear c3); (try clear c3b0); (try clear c3b1); (try clear p4); (try clear q4); (try clear hx4); (try clear p6); (try clear c8); (try clear c8b0); (try clear c9); (try clear c9b0); (try clear c10); (try clear c10b0); (try clear q11); (try clear c12); (try clear hx413_0); (try clear p2); (try clear p413); (try clear q413); obtain ⟨x4_2, x6_2, x7_2, rfl, HA, HK2, HO_3, HO_4, HO_6, HB⟩ := hrel; have hl4_2 := (rR HO_4.out).1; rw [hl4_2] at HO_4; (try simp only [hl4_2]); (try simp only [hl4_2] at HO_3); (try simp only [hl4_2] at HO_6)
         cases gk with
         | zero => exact absurd HA.out (by simp [spec_l1Cycles.l1])
         | succ k2 =>
          have H := HA.out; clear HA; simp only [spec_l1Cycles.l1] at H
          by_cases c17 : 0 ≤ x7_2
          ·rw [if_pos c17] at H
           have c17b0 := dT c17; clear c17
           by_cases c18 : x7_2 < (x4_2.length : Int)
           ·rw [if_pos c18] at H
            have c18b0 := dT c18; (try simp only [hl4_2] at c18b0); clear c18
            obtain ⟨bq19, hbq19⟩ : ∃ b_ : Bool, b_ = (rdOf false x4_2 x7_2) := ⟨_, rfl⟩
            replace H : (if bq19 = true then (if x3_1.length < 5864062014805 then (spec_l1Cycles.l0 k2 l0 (x3_1 ++ [x6_2]) x4_2 (wrap64 (x5_1 + 1))) else (none)) else (if x6_2.length < 17592186044416 then (if x7_2 < (l0.length : Int) then (spec_l1Cycles.l1 k2 l0 x3_1 (x4_2.set (x7_2 : Int).toNat true) x5_1 (x6_2 ++ [x7_2]) (rd l0 x7_2)) else (none)) else (none))) = some r := by rw [← hbq19] at H; exact H
            have Nbq19 := A0_ hbq19; clear hbq19
            by_cases c20 : bq19 = true
            ·subst c20
             rw [if_pos rfl] at H
             by_cases c21 : x3_1.length < 5864062014805
             ·rw [if_pos c21] at H
              have LMc21 := A0_ c21; clear c21
              obtain ⟨y418, hy418⟩ : ∃ y_ : List (List Int), y_ = (x3_1 ++ [x6_2]) := ⟨_, rfl⟩
              replace H : (spec_l1Cycles.l0 k2 l0 y418 x4_2 (wrap64 (x5_1 + 1))) = some r := zH hy418 H
              have Ny418 := A0_ hy418; clear hy418; have H' := A0_ H; clear H
              have p417 : 0 ≤ (x7_2 : Int) := zd
              have q417 : x7_2 < (x4_2.length : Int) := zd
              obtain ⟨ad417, e417, hx417_0⟩ := Kd.at_bool (rR HO_4.out).2.2 x7_2 p417 q417
              (try rw [← Nbq11.out] at hx417_0)
              (try rw [← Nbq19.out] at hx417_0)
              obtain rfl : ad413 = ad417 := (by injection e417)
              replace p417 := eq_true p417; replace q417 := eq_true q417; obtain ⟨Ao23, co23, eo23⟩ := rS HO_6.out; subst eo23
              go_wp2_with (first | ((with_reducible refine gB (b := .append) (xs := #[.tmp 40, .tmp 42]) rfl ?_); at_builtin; refine Kd.S_append (Kd.slice 3 (Kd.int .i64)) (w0 := w) w.heap.size rfl (.tmp 40) (.tmp 42) 68 23 (.slice none 0 0) 24 rfl Tryz.underlying68 info23 rfl (by decide) (by omega) u3 x3_1 x6_2 [.slice Ao23 x6_2.length co23] (fun _ => True) (fun k_ => some k_ = (.slice Ao23 x6_2.length co23 : Value).ownBlock) rfl rfl ?aP (fun k_ hk_ => ((rM (ok' := fun k_ => ((fun _ => True)) k_ ∧ some k_ ≠ (u3 : Value).ownBlock) (Kd.R_apart' (HO_6.out) (Kd.S_typed HO_3.out) (by decide)) (fun k_ hk => ⟨trivial, hk.2⟩))).1 k_ hk_.symm) ?aF ?aO ?aB ?aS ?aL ?_; (case aP => exact Kd.M_row (rM (Kd.R_tight rfl (rM (ok' := fun k_ => ((fun _ => True)) k_ ∧ some k_ ≠ (u3 : Value).ownBlock) (Kd.R_apart' (HO_6.out) (Kd.S_typed HO_3.out) (by decide)) (fun k_ hk => ⟨trivial, hk.2⟩))) (fun _ h_ => h_))); (case aB => exact (zB_ HB)); (case aF => exact (fun _ _ => trivial)); (case aO => exact (zmS HO_3 (fun k_ hk => ⟨trivial, fun e_ => hk e_⟩))); (case aS => exact (bZ (zB_ HB))); (case aL => have := LMc21.out; omega); intro v419 w22 ho hb hg hat; rw [← Ny418.out] at ho; replace HO_4 := A0_ (Kd.R_over' (zR_ HO_4) (Kd.S_typed (zS_ HO_3)) (by decide) hg); replace HB := A0_ (hb); have HO420 := A0_ (ho); clear HO_3 HO_6 ho hb hg hat))
              (try simp only [← hl4_2])
              go_roundg k2
              case measure => have := HK1.out; have := HK2.out; omega
              case rel => exact ⟨(y418), (x4_2), (wrap64 (x5_1 + 1)), zt, H', ⟨by have := HK1.out; have := HK2.out; omega⟩, ⟨by (try simp only [hl4_2]); (with_reducible repeat (first | apply sA | apply sN | apply sD)); exact HO420.out⟩, ⟨by (try simp only [hl4_2]); (with_reducible repeat (first | apply rA | apply rN | apply rD)); exact HO_4.out⟩, ⟨zB_ HB⟩⟩
             rw [if_neg c21] at H
             exact absurd H (by simp)
            replace c20 := Bool.eq_false_iff.mpr c20; subst c20
            rw [if_neg (show ¬ (false = true) by decide)] at H
            obtain ⟨y421, hy421⟩ : ∃ y_ : List Bool, y_ = (x4_2.set (x7_2 : Int).toNat true) := ⟨_, rfl⟩
            replace H : (if x6_2.length < 17592186044416 then (if x7_2 < (l0.length : Int) then (spec_l1Cycles.l1 k2 l0 x3_1 y421 x5_1 (x6_2 ++ [x7_2]) (rd l0 x7_2)) else (none)) else (none)) = some r := zH hy421 H
            have Ny421 := A0_ hy421; clear hy421
            by_cases c25 : x6_2.length < 17592186044416
            ·rw [if_pos c25] at H
             have LMc25 := A0_ c25; clear c25
             obtain ⟨y422, hy422⟩ : ∃ y_ : List Int, y_ = (x6_2 ++ [x7_2]) := ⟨_, rfl⟩
             replace H : (if x7_2 < (l0.length : Int) then (spec_l1Cycles.l1 k2 l0 x3_1 y421 x5_1 y422 (rd l0 x7_2)) else (none)) = some r := zH hy422 H
             have Ny422 := A0_ hy422; clear hy422
             by_cases c26 : x7_2 < (l0.length : Int)
             ·rw [if_pos c26] at H
              have c26b0 := dT c26; (try simp only [hl4_2] at c26b0); clear c26; have H' := A0_ H; clear H
              have p417 : 0 ≤ (x7_2 : Int) := zd
              have q417 : x7_2 < (x4_2.length : Int) := zd
              obtain ⟨ad417, e417, hx417_0⟩ := Kd.at_bool (rR HO_4.out).2.2 x7_2 p417 q417
              (try rw [← Nbq11.out] at hx417_0)
              (try rw [← Nbq19.out] at hx417_0)
              obtain rfl : ad413 = ad417 := (by injection e417)
              replace p417 := eq_true p417; replace q417 := eq_true q417
              have p24 : 0 ≤ (x7_2 : Int) := zd
              have q24 : (x7_2 : Int) < ((x4_2.length : Int) : Int) := zd
              obtain ⟨go24, co24, eo24, gb24, gl24, cl24, HG24⟩ := Kd.R_form HO_4.out (by omega)
              (first | cases eo24 | (injection eo24 with ea_ en_ ec_; (first | subst ea_ | (injection ea_ with ea_; subst ea_)); subst ec_; clear en_))
              have GB24 := A0_ gb24; have GG24 := A0_ HG24; clear gb24 gl24 HG24
              (first | simp only [add_plain] at hx413_0 | skip)
              (first | simp only [add_plain] at hx417_0 | skip)
              obtain ⟨hx24_0, hf24_0⟩ := Kd.R_celln false HO_4.out (x7_2 : Int) p24 q24
              replace p24 := eq_true p24; replace q24 := eq_true q24
              have HP27 := Kd.R_putg HO_4.out (x7_2 : Int) true
              go_wp2_with (first | ((with_reducible refine gS (t := 4) (p := 35) rfl ?_); refine store_event (t := 4) (p := 35) (v := ?vo_w28) (w1 := (wr.setCell ⟨go24, (x7_2 : Int).toNat, none⟩ (.bool true))) ?hg ?ho ?hn ?hr ?_; (case ho => rfl); (case hg => rfl); (case hn => rfl); (case hr => first | (go_simp; done) | (go_simp; rfl)); intro w28 hw; have hg : wr.grownBy w28 (some go24) := (by rw [hw]; exact HP27.2); have hp_ : Kd.R Kd.bool 4 w28 w.heap.size (fun _ => True) (.slice (some ⟨go24, 0, none⟩) x4_2.length co14) y421 := (by rw [hw, Ny421.out]; exact HP27.1); clear HP27; replace HO_3 := A0_ (Kd.S_over' (v := (.slice (some ⟨go24, 0, none⟩) x4_2.length co14)) (zS_ HO_3) (Kd.R_typed HO_4.out) (by decide) hg); replace HO_6 := A0_ (Kd.R_over' (v := (.slice (some ⟨go24, 0, none⟩) x4_2.length co14)) (zR_ HO_6) (Kd.R_typed HO_4.out) (by decide) hg); replace HO_4 := A0_ (hp_); replace HB := A0_ ((by rw [hw]; exact bS (HB.out) GB24.out : Below w.heap.size w w28)); clear hg hw hp_) | ((with_reducible refine gB (b := .append) (xs := #[.tmp 36, .tmp 38]) rfl ?_); at_builtin; refine Kd.R_append (Kd.int .i64) (w0 := w) w.heap.size rfl (.tmp 36) (.tmp 38) 23 3 (.int .i64 0) 8 rfl Tryz.underlying23 info3 rfl (by decide) (by omega) u6 x6_2 x7_2 [.int .i64 x7_2] (fun _ => True) (fun _ => False) rfl rfl ?aP (fun _ hk => hk.elim) ?aF ?aO ?aB ?aS ?aL ?_; (case aP => exact rfl); (case aB => exact (zB_ HB)); (case aF => exact (fun _ _ => trivial)); (case aO => exact (zR_ HO_6)); (case aS => exact (bZ (zB_ HB))); (case aL => have := LMc25.out; omega); intro v423 w29 ho hb hg hat; rw [← Ny422.out] at ho; replace HO_3 := A0_ (Kd.S_after (ok := (fun _ => True)) (zmS HO_3 (fun _ hk => ⟨trivial, hk⟩)) hg hat); replace HO_4 := A0_ (Kd.R_over' (zR_ HO_4) (Kd.R_typed (zR_ HO_6)) (by decide) hg); replace HB := A0_ (hb); have HO424 := A0_ (ho); clear HO_6 ho hb hg hat; have p425 : 0 ≤ (x7_2 : Int) := zd; have q425 : x7_2 < (l0.length : Int) := zd; obtain ⟨ad425, e425, hx425_0⟩ := tI HR0.out x7_2 p425 q425; cases e425; try replace hx425_0 := (HB.out.cell (wL w _ hx425_0)).trans hx425_0; replace p425 := eq_true p425; replace q425 := eq_true q425))
              (try simp only [← hl4_2])
              go_roundg k2
              case measure => have := HK1.out; have := HK2.out; omega
              case rel => exact ⟨(y421), (y422), (rd l0 x7_2), zt, H', ⟨by have := HK1.out; have := HK2.out; omega⟩, ⟨by (try simp only [hl4_2]); (with_reducible repeat (first | apply sA | apply sN | apply sD)); exact sM HO_3.out (fun _ hk => hk.2)⟩, ⟨by (try simp only [hl4_2]); (with_reducible repeat (first | apply rA | apply rN | apply rD)); exact HO_4.out⟩, ⟨by (try simp only [hl4_2]); (with_reducible repeat (first | apply rA | apply rN | apply rD)); exact HO424.out⟩, ⟨zB_ HB⟩⟩
             rw [if_neg c26] at H
             exact absurd H (by simp)
            rw [if_neg c25] at H
            exact absurd H (by simp)
           rw [if_neg c18] at H
           exact absurd H (by simp)
          rw [if_neg c17] at H
          exact absurd H (by simp)
       rw [if_neg c10] at H
       exact absurd H (by simp)
      rw [if_neg c9] at H
      exact absurd H (by simp)
     rw [if_neg c8] at H; have c8b0 := dF c8; clear c8; obtain rfl := sI H
     go_wp2
     go_ret
     exact ⟨_, by first | rfl | (simp [*] <;> rfl), zS_ HO_3, zB_ HB⟩
  rw [if_neg c3] at H
  exact absurd H (by simp)
 rw [if_neg c2] at H
 exact absurd H (by simp)

end Go.Proofs.YtjebcgbmlbemcaaGreatDoor.PFnExecuteValue
