-- Made by a program of this session (wip/tools) out of the loaded program; not trusted: Lean checks it.
import Derived.Test.YtmcgkckdnelcdaaPFnExactCoverConjx0
-- packed
namespace Go.Proofs.Ytmcgkckdnelcdaa.PFnExactCoverConj
open Go.RowKit Go.Proofs.YtmcgkckdnelcdaaW.PrintWords Go.Proofs.YtmcgkckdnelcdaaW.PrintLast Go.Proofs.YtmcgkckdnelcdaaW.PrintMore
attribute [local go_sem] max2_int min2_int max_two min_two max_three min_three max_four min_four   -- for this text's walks alone
set_option linter.unusedVariables false
set_option linter.unusedSimpArgs false

/-! ### impl_cyclesOf: function 75 -/
mutual
def impl_cyclesOf.l0 : Nat → List Int → List (List Int) → List Bool → Int → Int → Option ((List (List Int)))
  | 0, _, _, _, _, _ => none
  | k + 1, x0, x3, x4, x13, x14 => if x14 < x13 then (impl_cyclesOf.l1 k x0 x3 x4 (([] : List Int)) x14 x13 x14) else (some x3)
def impl_cyclesOf.l1 : Nat → List Int → List (List Int) → List Bool → List Int → Int → Int → Int → Option ((List (List Int)))
  | 0, _, _, _, _, _, _, _ => none
  | k + 1, x0, x3, x4, x6, x7, x13, x14 => if 0 ≤ x7 then (if x7 < (x4.length : Int) then (if rdOf false x4 x7 = true then (if (x6.length : Int) > 0 then (if x3.length < 5864062014805 then (impl_cyclesOf.l0 k x0 (x3 ++ [x6]) x4 x13 (wrap64 (x14 + 1))) else (none)) else (impl_cyclesOf.l0 k x0 x3 x4 x13 (wrap64 (x14 + 1)))) else (if x6.length < 17592186044416 then (if x7 < (x0.length : Int) then (impl_cyclesOf.l1 k x0 x3 (x4.set (x7 : Int).toNat true) (x6 ++ [x7]) (rd x0 x7) x13 x14) else (none)) else (none))) else (none)) else (none)
end
def impl_cyclesOf.f (k : Nat) (l0 : List Int) : Option ((List (List Int))) := if 0 ≤ (l0.length : Int) then (if ((l0.length : Int) : Int).toNat ≤ 281474976710656 then (impl_cyclesOf.l0 k l0 (([] : List (List Int))) (List.replicate ((l0.length : Int) : Int).toNat false) (l0.length : Int) 0) else (none)) else (none)
set_option maxHeartbeats 8000000 in
set_option maxRecDepth 100000 in
theorem impl_cyclesOf.calls (k : Nat) (A0 : Option Addr) (c0 : Nat) (l0 : List Int) (r : List (List Int)) (w : World) (hr0 : Kd.C (Kd.int .i64) w A0 l0.length l0) (hc0 : l0.length ≤ c0) (h : impl_cyclesOf.f k l0 = some r) :
    Calls Try.prog 75 #[.slice A0 l0.length c0] w fun e w' => ∃ v0_ : Value, e = .returned (v0_) ∧ Kd.S (Kd.slice 3 (Kd.int .i64)) 22 w' w.heap.size (fun _ => True) v0_ r ∧ Below w.heap.size w w' := by
 have HR0 := A0_ hr0; have HC0 := A0_ hc0; clear hr0 hc0
 have HB := A0_ (Below.refl w.heap.size w)
 have H : (if 0 ≤ (l0.length : Int) then (if ((l0.length : Int) : Int).toNat ≤ 281474976710656 then (impl_cyclesOf.l0 k l0 (([] : List (List Int))) (List.replicate ((l0.length : Int) : Int).toNat false) (l0.length : Int) 0) else (none)) else (none)) = some r := h
 clear h
 obtain ⟨y355, hy355⟩ : ∃ y_ : List (List Int), y_ = (([] : List (List Int))) := ⟨_, rfl⟩
 replace H : (if 0 ≤ (l0.length : Int) then (if ((l0.length : Int) : Int).toNat ≤ 281474976710656 then (impl_cyclesOf.l0 k l0 y355 (List.replicate ((l0.length : Int) : Int).toNat false) (l0.length : Int) 0) else (none)) else (none)) = some r := zH hy355 H
 have Ny355 := A0_ hy355; clear hy355
 by_cases c2 : 0 ≤ (l0.length : Int)
 ·rw [if_pos c2] at H
  have c2b0 := eq_true c2; have c2b1 := dT c2; clear c2
  by_cases c3 : ((l0.length : Int) : Int).toNat ≤ 281474976710656
  ·rw [if_pos c3] at H
   have c3b0 := eq_true c3; have c3b1 := dT c3; clear c3
   obtain ⟨y358, hy358⟩ : ∃ y_ : List Bool, y_ = (List.replicate ((l0.length : Int) : Int).toNat false) := ⟨_, rfl⟩
   replace H : (impl_cyclesOf.l0 k l0 y355 y358 (l0.length : Int) 0) = some r := zH hy358 H
   have Ny358 := A0_ hy358; clear hy358; have H' := A0_ H; clear H
   go_enter Try.func75, Try.ntmps75
   go_wp2_with (first | ((with_reducible refine gD (N := 8) rfl ?_); refine Kd.S_lit (Kd.slice 3 (Kd.int .i64)) _ 22 ?hg (N := 8) ?hd (xs := ([] : List (List Int))) (inner := []) (ok := fun _ => True) (okp := fun _ => True) ?hr ?hp (fun _ hk => hk) trivial (Below.refl _ _) (Nat.le_refl _) (by simp) ?_; (case hd => rfl); (case hg => rfl); (case hr => first | (go_simp; done) | (go_simp; rfl)); (case hp => exact (Reps.none _ _)); intro v356 w4 ho5 hb hg_ hnew_; clear hg_ hnew_; (first | rw [← Ny355.out] at ho5 | (simp only [Int.reduceToNat] at ho5; rw [← Ny355.out] at ho5)); have HO357 := A0_ (Kd.S_lower ho5 (bZ (zB_ HB))); replace HB := zB HB hb; clear hb ho5) | ((with_reducible refine gD (N := 11) rfl ?_); refine Kd.R_make Kd.bool _ 4 rfl (N := 11) rfl 75 _ _ rfl (l0.length : Int) rfl rfl Try.underlying75 (.bool false) 1 info4 rfl (by decide) (by omega) false (ok := fun _ => True) (okp := fun _ => True) rfl (fun _ hk => hk) trivial (zd) (Nat.le_trans (Nat.mul_le_mul_right _ (zd : (l0.length : Int).toNat ≤ 281474976710656)) (by omega)) (Below.refl _ _) (Nat.le_refl _) ?_; intro v359 w6 ho7 hb hg_ hnew_; clear hg_ hnew_; (first | rw [← Ny358.out] at ho7 | (simp only [Int.reduceToNat] at ho7; rw [← Ny358.out] at ho7)); replace HO357 := zS HO357 hb; have HO360 := A0_ (rL ho7 (bZ (zB_ HB))); replace HB := zB HB hb; clear hb ho7))
   go_loopg [3, 14] k (fun kq v3 v14 w' => ∃ (x3_1 : List (List Int)) (x4_1 : List Bool) (x14_1 : Int), v14 = .int .i64 x14_1 ∧ Aside0 (impl_cyclesOf.l0 kq l0 x3_1 x4_1 (l0.length : Int) x14_1 = some r) ∧ Aside0 (kq ≤ k) ∧ Aside0 (Kd.S (Kd.slice 3 (Kd.int .i64)) 22 w' w.heap.size (fun _ => True) v3 x3_1) ∧ Aside0 (Kd.R Kd.bool 4 w' w.heap.size (fun _ => True) v359 x4_1) ∧ Aside0 (Below w.heap.size w w'))
   case atStart => exact ⟨(y355), (y358), (0), zt, H', ⟨Nat.le_refl _⟩, ⟨zS_ HO357⟩, ⟨zR_ HO360⟩, ⟨zB_ HB⟩⟩
   case round =>
    clear H'; (try clear c2); (try clear c2b0); (try clear c2b1); (try clear p2); (try clear c3); (try clear c3b0); (try clear c3b1); (try clear c7); obtain ⟨x3_1, x4_1, x14_1, rfl, HA, HK1, HO_3, HO_4, HB⟩ := hrel
    cases gk with
    | zero => exact absurd HA.out (by simp [impl_cyclesOf.l0])
    | succ k1 =>
     have H := HA.out; clear HA; simp only [impl_cyclesOf.l0] at H
     by_cases c8 : x14_1 < (l0.length : Int)
     ·rw [if_pos c8] at H
      have c8b0 := dT c8; clear c8
      obtain ⟨y361, hy361⟩ : ∃ y_ : List Int, y_ = (([] : List Int)) := ⟨_, rfl⟩
      replace H : (impl_cyclesOf.l1 k1 l0 x3_1 x4_1 y361 x14_1 (l0.length : Int) x14_1) = some r := zH hy361 H
      have Ny361 := A0_ hy361; clear hy361; have H' := A0_ H; clear H
      go_wp2_with (first | ((with_reducible refine gD (N := 17) rfl ?_); refine Kd.R_lit (Kd.int .i64) _ 3 ?hg (N := 17) ?hd (xs := ([] : List Int)) (inner := []) (ok := fun _ => True) (okp := fun _ => True) ?hr ?hp (fun _ hk => hk) trivial (Below.refl _ _) (Nat.le_refl _) (by simp) ?_; (case hd => rfl); (case hg => rfl); (case hr => first | (go_simp; done) | (go_simp; rfl)); (case hp => exact (Reps.none _ _)); intro v362 w9 ho10 hb hg_ hnew_; clear hg_ hnew_; (first | rw [← Ny361.out] at ho10 | (simp only [Int.reduceToNat] at ho10; rw [← Ny361.out] at ho10)); replace HO_3 := A0_ (Kd.S_elder' (zS_ HO_3) (Kd.R_base ho10) hb); replace HO_4 := zR HO_4 hb; have HO363 := A0_ (rL ho10 (bZ (zB_ HB))); replace HB := zB HB hb; clear hb ho10))
      go_loopg [6, 7] k1 (fun kq v6 v7 w' => ∃ (x4_2 : List Bool) (x6_2 : List Int) (x7_2 : Int), v7 = .int .i64 x7_2 ∧ Aside0 (impl_cyclesOf.l1 kq l0 x3_1 x4_2 x6_2 x7_2 (l0.length : Int) x14_1 = some r) ∧ Aside0 (kq ≤ k1) ∧ Aside0 (Kd.S (Kd.slice 3 (Kd.int .i64)) 22 w' w.heap.size (fun k_ => some k_ ≠ (v6 : Value).ownBlock) u3 x3_1) ∧ Aside0 (Kd.R Kd.bool 4 w' w.heap.size (fun _ => True) v359 x4_2) ∧ Aside0 (Kd.R (Kd.int .i64) 3 w' w.heap.size (fun _ => True) v6 x6_2) ∧ Aside0 (Below w.heap.size w w'))
      case atStart => exact ⟨(x4_1), (y361), (x14_1), zt, H', ⟨Nat.le_refl _⟩, ⟨zmS HO_3 (fun _ hk => hk.2)⟩, ⟨zR_ HO_4⟩, ⟨zR_ HO363⟩, ⟨zB_ HB⟩⟩
      case round =>
       clear H'; (try clear c2); (try clear c2b0); (try clear c2b1); (try clear p2); (try clear c3); (try clear c3b0); (try clear c3b1); (try clear c7); (try clear c8); (try clear c8b0); (try clear p2); obtain ⟨x4_2, x6_2, x7_2, rfl, HA, HK2, HO_3, HO_4, HO_6, HB⟩ := hrel
       cases gk with
       | zero => exact absurd HA.out (by simp [impl_cyclesOf.l1])
       | succ k2 =>
        have H := HA.out; clear HA; simp only [impl_cyclesOf.l1] at H
        by_cases c11 : 0 ≤ x7_2
        ·rw [if_pos c11] at H
         have c11b0 := dT c11; clear c11
         by_cases c12 : x7_2 < (x4_2.length : Int)
         ·rw [if_pos c12] at H
          have c12b0 := dT c12; clear c12
          obtain ⟨bq13, hbq13⟩ : ∃ b_ : Bool, b_ = (rdOf false x4_2 x7_2) := ⟨_, rfl⟩
          replace H : (if bq13 = true then (if (x6_2.length : Int) > 0 then (if x3_1.length < 5864062014805 then (impl_cyclesOf.l0 k2 l0 (x3_1 ++ [x6_2]) x4_2 (l0.length : Int) (wrap64 (x14_1 + 1))) else (none)) else (impl_cyclesOf.l0 k2 l0 x3_1 x4_2 (l0.length : Int) (wrap64 (x14_1 + 1)))) else (if x6_2.length < 17592186044416 then (if x7_2 < (l0.length : Int) then (impl_cyclesOf.l1 k2 l0 x3_1 (x4_2.set (x7_2 : Int).toNat true) (x6_2 ++ [x7_2]) (rd l0 x7_2) (l0.length : Int) x14_1) else (none)) else (none))) = some r := by rw [← hbq13] at H; exact H
          have Nbq13 := A0_ hbq13; clear hbq13
          by_cases c14 : bq13 = true
          ·subst c14
           rw [if_pos rfl] at H
           by_cases c15 : (x6_2.length : Int) > 0
           ·rw [if_pos c15] at H
            have c15b0 : decide (0 < (x6_2.length : Int)) = true := dT c15
            have c15b1 : decide (0 < x6_2.length) = true := dT (by omega)
            clear c15
            by_cases c16 : x3_1.length < 5864062014805
            ·rw [if_pos c16] at H
             have LMc16 := A0_ c16; clear c16
             obtain ⟨y365, hy365⟩ : ∃ y_ : List (List Int), y_ = (x3_1 ++ [x6_2]) := ⟨_, rfl⟩
             replace H : (impl_cyclesOf.l0 k2 l0 y365 x4_2 (l0.length : Int) (wrap64 (x14_1 + 1))) = some r := zH hy365 H
             have Ny365 := A0_ hy365; clear hy365; have H' := A0_ H; clear H; obtain ⟨Ao17, co17, eo17⟩ := rS HO_4.out; subst eo17
             have p364 : 0 ≤ (x7_2 : Int) := zd
             have q364 : x7_2 < (x4_2.length : Int) := zd
             obtain ⟨ad364, e364, hx364_0⟩ := Kd.at_bool (rR HO_4.out).2.2 x7_2 p364 q364
             (try rw [← Nbq13.out] at hx364_0)
             cases e364
             replace p364 := eq_true p364; replace q364 := eq_true q364; obtain ⟨Ao18, co18, eo18⟩ := rS HO_6.out; subst eo18
             go_wp2_with (first | ((with_reducible refine gB (b := .append) (xs := #[.tmp 38, .tmp 40]) rfl ?_); at_builtin; refine Kd.S_append (Kd.slice 3 (Kd.int .i64)) (w0 := w) w.heap.size rfl (.tmp 38) (.tmp 40) 25 22 (.slice none 0 0) 24 rfl Try.underlying25 info22 rfl (by decide) (by omega) u3 x3_1 x6_2 [.slice Ao18 x6_2.length co18] (fun _ => True) (fun k_ => some k_ = (.slice Ao18 x6_2.length co18 : Value).ownBlock) rfl rfl ?aP (fun k_ hk_ => ((rM (ok' := fun k_ => ((fun _ => True)) k_ ∧ some k_ ≠ (u3 : Value).ownBlock) (Kd.R_apart' (HO_6.out) (Kd.S_typed HO_3.out) (by decide)) (fun k_ hk => ⟨trivial, hk.2⟩))).1 k_ hk_.symm) ?aF ?aO ?aB ?aS ?aL ?_; (case aP => exact Kd.M_row (rM (Kd.R_tight rfl (rM (ok' := fun k_ => ((fun _ => True)) k_ ∧ some k_ ≠ (u3 : Value).ownBlock) (Kd.R_apart' (HO_6.out) (Kd.S_typed HO_3.out) (by decide)) (fun k_ hk => ⟨trivial, hk.2⟩))) (fun _ h_ => h_))); (case aB => exact (zB_ HB)); (case aF => exact (fun _ _ => trivial)); (case aO => exact (zmS HO_3 (fun k_ hk => ⟨trivial, fun e_ => hk e_⟩))); (case aS => exact (bZ (zB_ HB))); (case aL => have := LMc16.out; omega); intro v366 w19 ho hb hg hat; rw [← Ny365.out] at ho; replace HO_4 := A0_ (Kd.R_over' (zR_ HO_4) (Kd.S_typed (zS_ HO_3)) (by decide) hg); replace HB := A0_ (hb); have HO367 := A0_ (ho); clear HO_3 HO_6 ho hb hg hat))
             go_roundg k2
             case measure => have := HK1.out; have := HK2.out; omega
             case rel => exact ⟨(y365), (x4_2), (wrap64 (x14_1 + 1)), zt, H', ⟨by have := HK1.out; have := HK2.out; omega⟩, ⟨zS_ HO367⟩, ⟨zR_ HO_4⟩, ⟨zB_ HB⟩⟩
            rw [if_neg c16] at H
            exact absurd H (by simp)
           rw [if_neg c15] at H
           have c15b0 : decide (0 < (x6_2.length : Int)) = false := dF c15
           have c15b1 : decide (0 < x6_2.length) = false := dF (by omega)
           clear c15; have H' := A0_ H; clear H; obtain ⟨Ao20, co20, eo20⟩ := rS HO_4.out; subst eo20
           have p364 : 0 ≤ (x7_2 : Int) := zd
           have q364 : x7_2 < (x4_2.length : Int) := zd
           obtain ⟨ad364, e364, hx364_0⟩ := Kd.at_bool (rR HO_4.out).2.2 x7_2 p364 q364
           (try rw [← Nbq13.out] at hx364_0)
           cases e364
           replace p364 := eq_true p364; replace q364 := eq_true q364; obtain ⟨Ao21, co21, eo21⟩ := rS HO_6.out; subst eo21
           go_wp2
           go_roundg k2
           case measure => have := HK1.out; have := HK2.out; omega
           case rel => exact ⟨(x3_1), (x4_2), (wrap64 (x14_1 + 1)), zt, H', ⟨by have := HK1.out; have := HK2.out; omega⟩, ⟨zmS HO_3 (fun _ hk => trivial)⟩, ⟨zR_ HO_4⟩, ⟨zB_ HB⟩⟩
          replace c14 := Bool.eq_false_iff.mpr c14; subst c14
          rw [if_neg (show ¬ (false = true) by decide)] at H
          obtain ⟨y368, hy368⟩ : ∃ y_ : List Bool, y_ = (x4_2.set (x7_2 : Int).toNat true) := ⟨_, rfl⟩
          replace H : (if x6_2.length < 17592186044416 then (if x7_2 < (l0.length : Int) then (impl_cyclesOf.l1 k2 l0 x3_1 y368 (x6_2 ++ [x7_2]) (rd l0 x7_2) (l0.length : Int) x14_1) else (none)) else (none)) = some r := zH hy368 H
          have Ny368 := A0_ hy368; clear hy368
          by_cases c23 : x6_2.length < 17592186044416
          ·rw [if_pos c23] at H
           have LMc23 := A0_ c23; clear c23
           obtain ⟨y369, hy369⟩ : ∃ y_ : List Int, y_ = (x6_2 ++ [x7_2]) := ⟨_, rfl⟩
           replace H : (if x7_2 < (l0.length : Int) then (impl_cyclesOf.l1 k2 l0 x3_1 y368 y369 (rd l0 x7_2) (l0.length : Int) x14_1) else (none)) = some r := zH hy369 H
           have Ny369 := A0_ hy369; clear hy369
           by_cases c24 : x7_2 < (l0.length : Int)
           ·rw [if_pos c24] at H
            have c24b0 := dT c24; clear c24; have H' := A0_ H; clear H; obtain ⟨Ao25, co25, eo25⟩ := rS HO_4.out; subst eo25
            have p364 : 0 ≤ (x7_2 : Int) := zd
            have q364 : x7_2 < (x4_2.length : Int) := zd
            obtain ⟨ad364, e364, hx364_0⟩ := Kd.at_bool (rR HO_4.out).2.2 x7_2 p364 q364
            (try rw [← Nbq13.out] at hx364_0)
            cases e364
            replace p364 := eq_true p364; replace q364 := eq_true q364
            have p22 : 0 ≤ (x7_2 : Int) := zd
            have q22 : (x7_2 : Int) < ((x4_2.length : Int) : Int) := zd
            obtain ⟨go22, co22, eo22, gb22, gl22, cl22, HG22⟩ := Kd.R_form HO_4.out (by omega)
            (first | cases eo22 | (injection eo22 with ea_ en_ ec_; (first | subst ea_ | (injection ea_ with ea_; subst ea_)); subst ec_; clear en_))
            have GB22 := A0_ gb22; have GG22 := A0_ HG22; clear gb22 gl22 HG22
            (first | simp only [add_plain] at hx364_0 | skip)
            obtain ⟨hx22_0, hf22_0⟩ := Kd.R_celln false HO_4.out (x7_2 : Int) p22 q22
            replace p22 := eq_true p22; replace q22 := eq_true q22
            have HP26 := Kd.R_putg HO_4.out (x7_2 : Int) true
            go_wp2_with (first | ((with_reducible refine gS (t := 4) (p := 30) rfl ?_); refine store_event (t := 4) (p := 30) (v := ?vo_w27) (w1 := (wr.setCell ⟨go22, (x7_2 : Int).toNat, none⟩ (.bool true))) ?hg ?ho ?hn ?hr ?_; (case ho => rfl); (case hg => rfl); (case hn => rfl); (case hr => first | (go_simp; done) | (go_simp; rfl)); intro w27 hw; have hg : wr.grownBy w27 (some go22) := (by rw [hw]; exact HP26.2); have hp_ : Kd.R Kd.bool 4 w27 w.heap.size (fun _ => True) (.slice (some ⟨go22, 0, none⟩) x4_2.length co25) y368 := (by rw [hw, Ny368.out]; exact HP26.1); clear HP26; replace HO_3 := A0_ (Kd.S_over' (v := (.slice (some ⟨go22, 0, none⟩) x4_2.length co25)) (zS_ HO_3) (Kd.R_typed HO_4.out) (by decide) hg); replace HO_6 := A0_ (Kd.R_over' (v := (.slice (some ⟨go22, 0, none⟩) x4_2.length co25)) (zR_ HO_6) (Kd.R_typed HO_4.out) (by decide) hg); replace HO_4 := A0_ (hp_); replace HB := A0_ ((by rw [hw]; exact bS (HB.out) GB22.out : Below w.heap.size w w27)); clear hg hw hp_) | ((with_reducible refine gB (b := .append) (xs := #[.tmp 31, .tmp 33]) rfl ?_); at_builtin; refine Kd.R_append (Kd.int .i64) (w0 := w) w.heap.size rfl (.tmp 31) (.tmp 33) 22 3 (.int .i64 0) 8 rfl Try.underlying22 info3 rfl (by decide) (by omega) u6 x6_2 x7_2 [.int .i64 x7_2] (fun _ => True) (fun _ => False) rfl rfl ?aP (fun _ hk => hk.elim) ?aF ?aO ?aB ?aS ?aL ?_; (case aP => exact rfl); (case aB => exact (zB_ HB)); (case aF => exact (fun _ _ => trivial)); (case aO => exact (zR_ HO_6)); (case aS => exact (bZ (zB_ HB))); (case aL => have := LMc23.out; omega); intro v370 w28 ho hb hg hat; rw [← Ny369.out] at ho; replace HO_3 := A0_ (Kd.S_after (ok := (fun _ => True)) (zmS HO_3 (fun _ hk => ⟨trivial, hk⟩)) hg hat); replace HO_4 := A0_ (Kd.R_over' (zR_ HO_4) (Kd.R_typed (zR_ HO_6)) (by decide) hg); replace HB := A0_ (hb); have HO371 := A0_ (ho); clear HO_6 ho hb hg hat; have p372 : 0 ≤ (x7_2 : Int) := zd; have q372 : x7_2 < (l0.length : Int) := zd; obtain ⟨ad372, e372, hx372_0⟩ := tI HR0.out x7_2 p372 q372; cases e372; try replace hx372_0 := (HB.out.cell (wL w _ hx372_0)).trans hx372_0; replace p372 := eq_true p372; replace q372 := eq_true q372))
            go_roundg k2
            case measure => have := HK1.out; have := HK2.out; omega
            case rel => exact ⟨(y368), (y369), (rd l0 x7_2), zt, H', ⟨by have := HK1.out; have := HK2.out; omega⟩, ⟨zmS HO_3 (fun _ hk => hk.2)⟩, ⟨zR_ HO_4⟩, ⟨zR_ HO371⟩, ⟨zB_ HB⟩⟩
           rw [if_neg c24] at H
           exact absurd H (by simp)
          rw [if_neg c23] at H
          exact absurd H (by simp)
         rw [if_neg c12] at H
         exact absurd H (by simp)
        rw [if_neg c11] at H
        exact absurd H (by simp)
     rw [if_neg c8] at H; have c8b0 := dF c8; clear c8; obtain rfl := sI H
     go_wp2
     go_ret
     exact ⟨_, by first | rfl | (simp [*] <;> rfl), zS_ HO_3, zB_ HB⟩
  rw [if_neg c3] at H
  exact absurd H (by simp)
 rw [if_neg c2] at H
 exact absurd H (by simp)

/-! ### impl_vertexOf: function 84 -/
mutual
def impl_vertexOf.l0 : Nat → List Int → List (List Int) → Int → Int → Option (List Int)
  | 0, _, _, _, _ => none
  | k + 1, x3, x14, x15, x16 => if x16 < x15 then (if 0 ≤ x16 then (if x16 < (x14.length : Int) then (impl_vertexOf.l1 k x3 x16 x14 x15 x16 (rd_L1 x14 x16) ((rd_L1 x14 x16).length : Int) 0) else (none)) else (none)) else (some x3)
def impl_vertexOf.l1 : Nat → List Int → Int → List (List Int) → Int → Int → List Int → Int → Int → Option (List Int)
  | 0, _, _, _, _, _, _, _, _ => none
  | k + 1, x3, x4, x14, x15, x16, x21, x22, x23 => if x23 < x22 then (if 0 ≤ x23 then (if x23 < (x21.length : Int) then (if 0 ≤ (rd x21 x23) then (if (rd x21 x23) < (x3.length : Int) then (impl_vertexOf.l1 k (x3.set ((rd x21 x23) : Int).toNat x4) x4 x14 x15 x16 x21 x22 (wrap64 (x23 + 1))) else (none)) else (none)) else (none)) else (none)) else (impl_vertexOf.l0 k x3 x14 x15 (wrap64 (x16 + 1)))
end
def impl_vertexOf.f (k : Nat) (l0_0 : List Int) (l0_1 : List Int) : Option (List Int) := if 0 ≤ (l0_0.length : Int) then (if ((l0_0.length : Int) : Int).toNat ≤ 35184372088832 then ((impl_cyclesOf.f k l0_0).bind fun t377 => (impl_vertexOf.l0 k (List.replicate ((l0_0.length : Int) : Int).toNat 0) t377 (t377.length : Int) 0)) else (none)) else (none)
set_option maxHeartbeats 8000000 in
set_option maxRecDepth 100000 in
theorem impl_vertexOf.calls (k : Nat) (A0_0 : Option Addr) (c0_0 : Nat) (l0_0 : List Int) (A0_1 : Option Addr) (c0_1 : Nat) (l0_1 : List Int) (r : List Int) (w : World) (hr0_0 : Kd.C (Kd.int .i64) w A0_0 l0_0.length l0_0) (hc0_0 : l0_0.length ≤ c0_0) (hr0_1 : Kd.C (Kd.int .i64) w A0_1 l0_1.length l0_1) (hc0_1 : l0_1.length ≤ c0_1) (h : impl_vertexOf.f k l0_0 l0_1 = some r) :
    Calls Try.prog 84 #[.agg #[.slice A0_0 l0_0.length c0_0, .slice A0_1 l0_1.length c0_1]] w fun e w' => ∃ v0_ : Value, e = .returned (v0_) ∧ Kd.R (Kd.int .i64) 3 w' w.heap.size (fun _ => True) v0_ r ∧ Below w.heap.size w w' := by
 have hu29 := Try.underlying29; have HR0_0 := A0_ hr0_0; have HC0_0 := A0_ hc0_0; clear hr0_0 hc0_0; have HR0_1 := A0_ hr0_1; have HC0_1 := A0_ hc0_1; clear hr0_1 hc0_1
 have HB := A0_ (Below.refl w.heap.size w)
 have H : (if 0 ≤ (l0_0.length : Int) then (if ((l0_0.length : Int) : Int).toNat ≤ 35184372088832 then ((impl_cyclesOf.f k l0_0).bind fun t377 => (impl_vertexOf.l0 k (List.replicate ((l0_0.length : Int) : Int).toNat 0) t377 (t377.length : Int) 0)) else (none)) else (none)) = some r := h
 clear h
 by_cases c2 : 0 ≤ (l0_0.length : Int)
 ·rw [if_pos c2] at H
  have c2b0 := eq_true c2; have c2b1 := dT c2; clear c2
  by_cases c3 : ((l0_0.length : Int) : Int).toNat ≤ 35184372088832
  ·rw [if_pos c3] at H
   have c3b0 := eq_true c3; have c3b1 := dT c3; clear c3
   obtain ⟨y374, hy374⟩ : ∃ y_ : List Int, y_ = (List.replicate ((l0_0.length : Int) : Int).toNat 0) := ⟨_, rfl⟩
   replace H : ((impl_cyclesOf.f k l0_0).bind fun t377 => (impl_vertexOf.l0 k y374 t377 (t377.length : Int) 0)) = some r := zH hy374 H
   have Ny374 := A0_ hy374; clear hy374; obtain ⟨t377, A4, H⟩ := zbind H; have H' := A0_ H; clear H
   go_enter Try.func84, Try.ntmps84
   go_wp2_with (first | ((with_reducible refine gD (N := 1) rfl ?_); refine zX (N := 1) (cs := #[.slice A0_0 l0_0.length c0_0, .slice A0_1 l0_1.length c0_1]) (t := 29) ?_; intro gb373 hg w5 hbox hb; have BK373 := A0_ (hbox); have GW373 := zG hg HB; have GE373 := zG hg HB; replace HB := zB HB hb; clear hb hbox hg; have hcz6_0 := zc0 BK373; have hcz6_1 := zc1 BK373; have hfz6_0 := kF BK373.out 0; have hfz6_1 := kF BK373.out 1) | ((with_reducible refine gD (N := 11) rfl ?_); refine Kd.R_make (Kd.int .i64) _ 3 rfl (N := 11) rfl 22 _ _ rfl (l0_0.length : Int) rfl rfl Try.underlying22 (.int .i64 0) 8 info3 rfl (by decide) (by omega) 0 (ok := fun _ => True) (okp := fun _ => True) rfl (fun _ hk => hk) trivial (zd) (Nat.le_trans (Nat.mul_le_mul_right _ (zd : (l0_0.length : Int).toNat ≤ 35184372088832)) (by omega)) (Below.refl _ _) (Nat.le_refl _) ?_; intro v375 w7 ho8 hb hg_ hnew_; clear hg_ hnew_; (first | rw [← Ny374.out] at ho8 | (simp only [Int.reduceToNat] at ho8; rw [← Ny374.out] at ho8)); have HO376 := A0_ (rL ho8 (bZ (zB_ HB))); replace BK373 := zK BK373 hb; replace HB := zB HB hb; clear hb ho8; have hcz9_0 := zc0 BK373; have hcz9_1 := zc1 BK373; have hfz9_0 := kF BK373.out 0; have hfz9_1 := kF BK373.out 1) | ((with_reducible refine gC (f := 75) rfl ?_); refine zJ (some 14) Try.func75 #[.slice A0_0 l0_0.length c0_0] ?_; (with_reducible refine (impl_cyclesOf.calls k _ _ l0_0 t377 _ ?side1 ?side2 A4.out).mono ?_); (case side1 => exact zC HR0_0 HB); (case side2 => exact HC0_0.out); rintro e w10 ⟨v378, rfl, ho0, hb⟩; refine ⟨_, rfl, ?_⟩; have HO379 := A0_ (Kd.S_lower (Kd.S_new' ho0 (rX (zR_ HO376))) (bZ (zB_ HB))); replace HO376 := zR HO376 hb; replace BK373 := zK BK373 hb; replace HB := zB HB hb; (try clear hb); (try clear ho0); obtain ⟨Ao11, co11, eo11⟩ := Kd.S_slice HO379.out; subst eo11))
   go_loopg [16] k (fun kq v16 w' => ∃ (x3_1 : List Int) (x16_1 : Int), v16 = .int .i64 x16_1 ∧ Aside0 (impl_vertexOf.l0 kq x3_1 t377 (t377.length : Int) x16_1 = some r) ∧ Aside0 (kq ≤ k) ∧ Aside0 (Kd.R (Kd.int .i64) 3 w' w.heap.size (fun _ => True) v375 x3_1) ∧ Aside0 (Kd.S (Kd.slice 3 (Kd.int .i64)) 22 w' w.heap.size (fun k_ => some k_ ≠ (v375 : Value).ownBlock) (.slice Ao11 t377.length co11) t377) ∧ Aside0 (w'.heap[gb373]? = some (.cells #[(.slice A0_0 l0_0.length c0_0), (.slice A0_1 l0_1.length c0_1)] 29 (0, 0))) ∧ Aside0 (Below w.heap.size w w'))
   case atStart => exact ⟨(y374), (0), zt, H', ⟨Nat.le_refl _⟩, ⟨zR_ HO376⟩, ⟨zmS HO379 (fun _ hk => hk.2)⟩, ⟨zK_ BK373⟩, ⟨zB_ HB⟩⟩
   case round =>
    clear H'; (try clear c2); (try clear c2b0); (try clear c2b1); (try clear p2); (try clear c3); (try clear c3b0); (try clear c3b1); (try clear c7); (try clear c8); (try clear hcz6_0); (try clear hcz6_1); (try clear hcz9_0); (try clear hcz9_1); (try clear hfz6_0); (try clear hfz6_1); (try clear hfz9_0); (try clear hfz9_1); obtain ⟨x3_1, x16_1, rfl, HA, HK1, HO_3, HO_14, BK373, HB⟩ := hrel
    cases gk with
    | zero => exact absurd HA.out (by simp [impl_vertexOf.l0])
    | succ k1 =>
     have H := HA.out; clear HA; simp only [impl_vertexOf.l0] at H
     by_cases c12 : x16_1 < (t377.length : Int)
     ·rw [if_pos c12] at H
      have c12b0 := dT c12; clear c12
      by_cases c13 : 0 ≤ x16_1
      ·rw [if_pos c13] at H
       have c13b0 := dT c13; clear c13
       by_cases c14 : x16_1 < (t377.length : Int)
       ·rw [if_pos c14] at H
        have c14b0 := dT c14; clear c14; have H' := A0_ H; clear H
        have p380 : 0 ≤ (x16_1 : Int) := zd
        have q380 : x16_1 < (t377.length : Int) := zd
        obtain ⟨ad380, A380_0, c380_0, e380, hx380_0, hl380_0, hi380_0⟩ := at_L1 (Kd.S_reads' HO_14.out).2.2 x16_1 p380 q380
        cases e380
        obtain ⟨ce380, hce380, hMe380, hcc380⟩ := Kd.S_get HO_14.out [] x16_1 p380 (by first | exact q380 | exact zd | (have e_ := (Kd.S_reads' HO_14.out).1; omega))
        obtain ⟨ve380_0, rfl, ge380_0⟩ := hMe380; have hv380_0 := hcc380 0 _ rfl
        rw [Nat.add_zero, show ((Kd.slice 3 (Kd.int .i64))).sz = 1 from rfl, Nat.mul_one] at hv380_0
        replace hv380_0 := sI (hv380_0.symm.trans hx380_0)
        rw [hv380_0] at ge380_0
        have HL380_0 := A0_ (show Kd.R (Kd.int .i64) 3 _ _ _ _ (rd_L1 t377 x16_1) from ge380_0)
        clear hv380_0 ge380_0 hcc380 hce380; have HR380_0 := A0_ hi380_0; have HC380_0 := A0_ hl380_0; clear hi380_0 hl380_0; replace p380 := eq_true p380; replace q380 := eq_true q380
        go_wp2
        go_loopg [23] k1 (fun kq v23 w' => ∃ (x3_2 : List Int) (x23_2 : Int), v23 = .int .i64 x23_2 ∧ Aside0 (impl_vertexOf.l1 kq x3_2 x16_1 t377 (t377.length : Int) x16_1 (rd_L1 t377 x16_1) ((rd_L1 t377 x16_1).length : Int) x23_2 = some r) ∧ Aside0 (kq ≤ k1) ∧ Aside0 (Kd.R (Kd.int .i64) 3 w' w.heap.size (fun _ => True) v375 x3_2) ∧ Aside0 (Kd.S (Kd.slice 3 (Kd.int .i64)) 22 w' w.heap.size (fun k_ => some k_ ≠ (v375 : Value).ownBlock) (.slice (some ad380) t377.length co11) t377) ∧ Aside0 (Kd.R (Kd.int .i64) 3 w' w.heap.size (fun k_ => some k_ ≠ (v375 : Value).ownBlock) (.slice A380_0 (rd_L1 t377 x16_1).length c380_0) (rd_L1 t377 x16_1)) ∧ Aside0 (w'.heap[gb373]? = some (.cells #[(.slice A0_0 l0_0.length c0_0), (.slice A0_1 l0_1.length c0_1)] 29 (0, 0))) ∧ Aside0 (Below w.heap.size w w'))
        case atStart => exact ⟨(x3_1), (0), zt, H', ⟨Nat.le_refl _⟩, ⟨zR_ HO_3⟩, ⟨zS_ HO_14⟩, ⟨zmR HL380_0 (fun _ hk => hk.1)⟩, ⟨zK_ BK373⟩, ⟨zB_ HB⟩⟩
        case round =>
         clear H'; (try clear c1); (try clear c2); (try clear c2b0); (try clear c2b1); (try clear p2); (try clear c3); (try clear c3b0); (try clear c3b1); (try clear p3); (try clear q3); (try clear hx3); (try clear c7); (try clear c8); (try clear c12); (try clear c12b0); (try clear c13); (try clear c13b0); (try clear c14); (try clear c14b0); (try clear hcz6_0); (try clear hcz6_1); (try clear hcz9_0); (try clear hcz9_1); (try clear hfz6_0); (try clear hfz6_1); (try clear hfz9_0); (try clear hfz9_1); (try clear hx380_0); (try clear p2); (try clear p380); (try clear q380); obtain ⟨x3_2, x23_2, rfl, HA, HK2, HO_3, HO_14, HL380_0, BK373, HB⟩ := hrel
         cases gk with
         | zero => exact absurd HA.out (by simp [impl_vertexOf.l1])
         | succ k2 =>
          have H := HA.out; clear HA; simp only [impl_vertexOf.l1] at H
          by_cases c15 : x23_2 < ((rd_L1 t377 x16_1).length : Int)
          ·rw [if_pos c15] at H
           have c15b0 := dT c15; clear c15
           by_cases c16 : 0 ≤ x23_2
           ·rw [if_pos c16] at H
            have c16b0 := dT c16; clear c16
            by_cases c17 : x23_2 < ((rd_L1 t377 x16_1).length : Int)
            ·rw [if_pos c17] at H
             have c17b0 := dT c17; clear c17
             by_cases c18 : 0 ≤ (rd (rd_L1 t377 x16_1) x23_2)
             ·rw [if_pos c18] at H
              have c18b0 := dT c18; clear c18
              by_cases c19 : (rd (rd_L1 t377 x16_1) x23_2) < (x3_2.length : Int)
              ·rw [if_pos c19] at H
               have c19b0 := dT c19; clear c19
               obtain ⟨y382, hy382⟩ : ∃ y_ : List Int, y_ = (x3_2.set ((rd (rd_L1 t377 x16_1) x23_2) : Int).toNat x16_1) := ⟨_, rfl⟩
               replace H : (impl_vertexOf.l1 k2 y382 x16_1 t377 (t377.length : Int) x16_1 (rd_L1 t377 x16_1) ((rd_L1 t377 x16_1).length : Int) (wrap64 (x23_2 + 1))) = some r := zH hy382 H
               have Ny382 := A0_ hy382; clear hy382; have H' := A0_ H; clear H
               have p381 : 0 ≤ (x23_2 : Int) := zd
               have q381 : x23_2 < ((rd_L1 t377 x16_1).length : Int) := zd
               obtain ⟨ad381, e381, hx381_0⟩ := tI (rR HL380_0.out).2.2 x23_2 p381 q381
               cases e381
               replace p381 := eq_true p381; replace q381 := eq_true q381
               have p20 : 0 ≤ ((rd (rd_L1 t377 x16_1) x23_2) : Int) := zd
               have q20 : ((rd (rd_L1 t377 x16_1) x23_2) : Int) < ((x3_2.length : Int) : Int) := zd
               obtain ⟨go20, co20, eo20, gb20, gl20, cl20, HG20⟩ := Kd.R_form HO_3.out (by omega)
               (first | cases eo20 | (injection eo20 with ea_ en_ ec_; (first | subst ea_ | (injection ea_ with ea_; subst ea_)); subst ec_; clear en_))
               have GB20 := A0_ gb20; have GG20 := A0_ HG20; clear gb20 gl20 HG20
               obtain ⟨hx20_0, hf20_0⟩ := Kd.R_celln 0 HO_3.out ((rd (rd_L1 t377 x16_1) x23_2) : Int) p20 q20
               replace p20 := eq_true p20; replace q20 := eq_true q20
               have HP21 := Kd.R_putg HO_3.out ((rd (rd_L1 t377 x16_1) x23_2) : Int) x16_1
               go_wp2_with (first | ((with_reducible refine gS (t := 3) (p := 30) rfl ?_); refine store_event (t := 3) (p := 30) (v := ?vo_w22) (w1 := (wr.setCell ⟨go20, ((rd (rd_L1 t377 x16_1) x23_2) : Int).toNat, none⟩ (.int .i64 x16_1))) ?hg ?ho ?hn ?hr ?_; (case ho => rfl); (case hg => rfl); (case hn => rfl); (case hr => first | (go_simp; done) | (go_simp; rfl)); intro w22 hw; have hg : wr.grownBy w22 (some go20) := (by rw [hw]; exact HP21.2); have hp_ : Kd.R (Kd.int .i64) 3 w22 w.heap.size (fun _ => True) (.slice (some ⟨go20, 0, none⟩) x3_2.length co20) y382 := (by rw [hw, Ny382.out]; exact HP21.1); clear HP21; replace HO_14 := A0_ (Kd.S_after (v := (.slice (some ⟨go20, 0, none⟩) x3_2.length co20)) (v1 := (.slice (some ⟨go20, 0, none⟩) x3_2.length co20)) (ok := (fun _ => True)) (zmS HO_14 (fun _ hk => ⟨trivial, hk⟩)) hg (.inl rfl)); replace BK373 := A0_ (blk_grown (g := gb373) (o := .cells #[.slice A0_0 l0_0.length c0_0, .slice A0_1 l0_1.length c0_1] 29 (0, 0)) (zK_ BK373) hg (Kd.R_ne HO_3.out BK373.out (by decide))); replace HO_3 := A0_ (hp_); replace HB := A0_ ((by rw [hw]; exact bS (HB.out) GB20.out : Below w.heap.size w w22)); have HL2_ := A0_ (Kd.R_after (v := (.slice (some ⟨go20, 0, none⟩) x3_2.length co20)) (v1 := (.slice (some ⟨go20, 0, none⟩) x3_2.length co20)) (ok := (fun _ => True)) (zmR HL380_0 (fun _ hk => ⟨trivial, hk⟩)) hg (.inl rfl)); clear HL380_0; have HL380_0 := HL2_; clear HL2_ hg hw hp_))
               go_roundg k2
               case measure => have := HK1.out; have := HK2.out; omega
               case rel => exact ⟨(y382), (wrap64 (x23_2 + 1)), zt, H', ⟨by have := HK1.out; have := HK2.out; omega⟩, ⟨zR_ HO_3⟩, ⟨zmS HO_14 (fun _ hk => hk.2)⟩, ⟨zmR HL380_0 (fun _ hk => hk.2)⟩, ⟨zK_ BK373⟩, ⟨zB_ HB⟩⟩
              rw [if_neg c19] at H
              exact absurd H (by simp)
             rw [if_neg c18] at H
             exact absurd H (by simp)
            rw [if_neg c17] at H
            exact absurd H (by simp)
           rw [if_neg c16] at H
           exact absurd H (by simp)
          rw [if_neg c15] at H; have c15b0 := dF c15; clear c15; have H' := A0_ H; clear H
          go_wp2
          go_roundg k2
          case measure => have := HK1.out; have := HK2.out; omega
          case rel => exact ⟨(x3_2), (wrap64 (x16_1 + 1)), zt, H', ⟨by have := HK1.out; have := HK2.out; omega⟩, ⟨zR_ HO_3⟩, ⟨zS_ HO_14⟩, ⟨zK_ BK373⟩, ⟨zB_ HB⟩⟩
       rw [if_neg c14] at H
       exact absurd H (by simp)
      rw [if_neg c13] at H
      exact absurd H (by simp)
     rw [if_neg c12] at H; have c12b0 := dF c12; clear c12; obtain rfl := sI H
     go_wp2
     go_ret
     exact ⟨_, by first | rfl | (simp [*] <;> rfl), zR_ HO_3, zB_ HB⟩
  rw [if_neg c3] at H
  exact absurd H (by simp)
 rw [if_neg c2] at H
 exact absurd H (by simp)

/-! ### impl_back: function 89 -/
def impl_back.l0 : Nat → List Int → List Int → Int → Int → Option (List Int)
  | 0, _, _, _, _ => none
  | k + 1, x3, x9, x10, x11 => if x11 < x10 then (if 0 ≤ x11 then (if x11 < (x9.length : Int) then (if 0 ≤ (rd x9 x11) then (if (rd x9 x11) < (x3.length : Int) then (impl_back.l0 k (x3.set ((rd x9 x11) : Int).toNat x11) x9 x10 (wrap64 (x11 + 1))) else (none)) else (none)) else (none)) else (none)) else (some x3)
def impl_back.f (k : Nat) (l0 : List Int) : Option (List Int) := if 0 ≤ (l0.length : Int) then (if ((l0.length : Int) : Int).toNat ≤ 35184372088832 then (impl_back.l0 k (List.replicate ((l0.length : Int) : Int).toNat 0) l0 (l0.length : Int) 0) else (none)) else (none)
set_option maxHeartbeats 8000000 in
set_option maxRecDepth 100000 in
theorem impl_back.calls (k : Nat) (A0 : Option Addr) (c0 : Nat) (l0 : List Int) (r : List Int) (w : World) (hr0 : Kd.C (Kd.int .i64) w A0 l0.length l0) (hc0 : l0.length ≤ c0) (h : impl_back.f k l0 = some r) :
    Calls Try.prog 89 #[.slice A0 l0.length c0] w fun e w' => ∃ v0_ : Value, e = .returned (v0_) ∧ Kd.R (Kd.int .i64) 3 w' w.heap.size (fun _ => True) v0_ r ∧ Below w.heap.size w w' := by
 have HR0 := A0_ hr0; have HC0 := A0_ hc0; clear hr0 hc0
 have HB := A0_ (Below.refl w.heap.size w)
 have H : (if 0 ≤ (l0.length : Int) then (if ((l0.length : Int) : Int).toNat ≤ 35184372088832 then (impl_back.l0 k (List.replicate ((l0.length : Int) : Int).toNat 0) l0 (l0.length : Int) 0) else (none)) else (none)) = some r := h
 clear h
 by_cases c2 : 0 ≤ (l0.length : Int)
 ·rw [if_pos c2] at H
  have c2b0 := eq_true c2; have c2b1 := dT c2; clear c2
  by_cases c3 : ((l0.length : Int) : Int).toNat ≤ 35184372088832
  ·rw [if_pos c3] at H
   have c3b0 := eq_true c3; have c3b1 := dT c3; clear c3
   obtain ⟨y383, hy383⟩ : ∃ y_ : List Int, y_ = (List.replicate ((l0.length : Int) : Int).toNat 0) := ⟨_, rfl⟩
   replace H : (impl_back.l0 k y383 l0 (l0.length : Int) 0) = some r := zH hy383 H
   have Ny383 := A0_ hy383; clear hy383; have H' := A0_ H; clear H
   go_enter Try.func89, Try.ntmps89
   go_wp2_with (first | ((with_reducible refine gD (N := 8) rfl ?_); refine Kd.R_make (Kd.int .i64) _ 3 rfl (N := 8) rfl 22 _ _ rfl (l0.length : Int) rfl rfl Try.underlying22 (.int .i64 0) 8 info3 rfl (by decide) (by omega) 0 (ok := fun _ => True) (okp := fun _ => True) rfl (fun _ hk => hk) trivial (zd) (Nat.le_trans (Nat.mul_le_mul_right _ (zd : (l0.length : Int).toNat ≤ 35184372088832)) (by omega)) (Below.refl _ _) (Nat.le_refl _) ?_; intro v384 w4 ho5 hb hg_ hnew_; clear hg_ hnew_; (first | rw [← Ny383.out] at ho5 | (simp only [Int.reduceToNat] at ho5; rw [← Ny383.out] at ho5)); have HO385 := A0_ (rL ho5 (bZ (zB_ HB))); replace HB := zB HB hb; clear hb ho5))
   go_loopg [11] k (fun kq v11 w' => ∃ (x3_1 : List Int) (x11_1 : Int), v11 = .int .i64 x11_1 ∧ Aside0 (impl_back.l0 kq x3_1 l0 (l0.length : Int) x11_1 = some r) ∧ Aside0 (kq ≤ k) ∧ Aside0 (Kd.R (Kd.int .i64) 3 w' w.heap.size (fun _ => True) v384 x3_1) ∧ Aside0 (Below w.heap.size w w'))
   case atStart => exact ⟨(y383), (0), zt, H', ⟨Nat.le_refl _⟩, ⟨zR_ HO385⟩, ⟨zB_ HB⟩⟩
   case round =>
    clear H'; (try clear c2); (try clear c2b0); (try clear c2b1); (try clear p2); (try clear c3); (try clear c3b0); (try clear c3b1); obtain ⟨x3_1, x11_1, rfl, HA, HK1, HO_3, HB⟩ := hrel
    cases gk with
    | zero => exact absurd HA.out (by simp [impl_back.l0])
    | succ k1 =>
     have H := HA.out; clear HA; simp only [impl_back.l0] at H
     by_cases c6 : x11_1 < (l0.length : Int)
     ·rw [if_pos c6] at H
      have c6b0 := dT c6; clear c6
      by_cases c7 : 0 ≤ x11_1
      ·rw [if_pos c7] at H
       have c7b0 := dT c7; clear c7
       by_cases c8 : x11_1 < (l0.length : Int)
       ·rw [if_pos c8] at H
        have c8b0 := dT c8; clear c8
        by_cases c9 : 0 ≤ (rd l0 x11_1)
        ·rw [if_pos c9] at H
         have c9b0 := dT c9; clear c9
         by_cases c10 : (rd l0 x11_1) < (x3_1.length : Int)
         ·rw [if_pos c10] at H
          have c10b0 := dT c10; clear c10
          obtain ⟨y387, hy387⟩ : ∃ y_ : List Int, y_ = (x3_1.set ((rd l0 x11_1) : Int).toNat x11_1) := ⟨_, rfl⟩
          replace H : (impl_back.l0 k1 y387 l0 (l0.length : Int) (wrap64 (x11_1 + 1))) = some r := zH hy387 H
          have Ny387 := A0_ hy387; clear hy387; have H' := A0_ H; clear H
          have p386 : 0 ≤ (x11_1 : Int) := zd
          have q386 : x11_1 < (l0.length : Int) := zd
          obtain ⟨ad386, e386, hx386_0⟩ := tI HR0.out x11_1 p386 q386
          cases e386
          try replace hx386_0 := (HB.out.cell (wL w _ hx386_0)).trans hx386_0
          replace p386 := eq_true p386; replace q386 := eq_true q386
          have p11 : 0 ≤ ((rd l0 x11_1) : Int) := zd
          have q11 : ((rd l0 x11_1) : Int) < ((x3_1.length : Int) : Int) := zd
          obtain ⟨go11, co11, eo11, gb11, gl11, cl11, HG11⟩ := Kd.R_form HO_3.out (by omega)
          (first | cases eo11 | (injection eo11 with ea_ en_ ec_; (first | subst ea_ | (injection ea_ with ea_; subst ea_)); subst ec_; clear en_))
          have GB11 := A0_ gb11; have GG11 := A0_ HG11; clear gb11 gl11 HG11
          obtain ⟨hx11_0, hf11_0⟩ := Kd.R_celln 0 HO_3.out ((rd l0 x11_1) : Int) p11 q11
          replace p11 := eq_true p11; replace q11 := eq_true q11
          have HP12 := Kd.R_putg HO_3.out ((rd l0 x11_1) : Int) x11_1
          go_wp2_with (first | ((with_reducible refine gS (t := 3) (p := 19) rfl ?_); refine store_event (t := 3) (p := 19) (v := ?vo_w13) (w1 := (wr.setCell ⟨go11, ((rd l0 x11_1) : Int).toNat, none⟩ (.int .i64 x11_1))) ?hg ?ho ?hn ?hr ?_; (case ho => rfl); (case hg => rfl); (case hn => rfl); (case hr => first | (go_simp; done) | (go_simp; rfl)); intro w13 hw; have hg : wr.grownBy w13 (some go11) := (by rw [hw]; exact HP12.2); have hp_ : Kd.R (Kd.int .i64) 3 w13 w.heap.size (fun _ => True) (.slice (some ⟨go11, 0, none⟩) x3_1.length co11) y387 := (by rw [hw, Ny387.out]; exact HP12.1); clear HP12; replace HO_3 := A0_ (hp_); replace HB := A0_ ((by rw [hw]; exact bS (HB.out) GB11.out : Below w.heap.size w w13)); clear hg hw hp_))
          go_roundg k1
          case measure => have := HK1.out; omega
          case rel => exact ⟨(y387), (wrap64 (x11_1 + 1)), zt, H', ⟨by have := HK1.out; omega⟩, ⟨zR_ HO_3⟩, ⟨zB_ HB⟩⟩
         rw [if_neg c10] at H
         exact absurd H (by simp)
        rw [if_neg c9] at H
        exact absurd H (by simp)
       rw [if_neg c8] at H
       exact absurd H (by simp)
      rw [if_neg c7] at H
      exact absurd H (by simp)
     rw [if_neg c6] at H; have c6b0 := dF c6; clear c6; obtain rfl := sI H
     go_wp2
     go_ret
     exact ⟨_, by first | rfl | (simp [*] <;> rfl), zR_ HO_3, zB_ HB⟩
  rw [if_neg c3] at H
  exact absurd H (by simp)
 rw [if_neg c2] at H
 exact absurd H (by simp)

/-! ### slices_Clone_int_int: function 102 -/
def slices_Clone_int_int.f (l0 : List Int) : Option (List Int) := if l0.length ≤ 1048576 then some l0 else none
set_option maxHeartbeats 8000000 in
set_option maxRecDepth 100000 in
theorem slices_Clone_int_int.calls (A0 : Option Addr) (c0 : Nat) (l0 : List Int) (r : List Int) (w : World) (hr0 : Kd.C (Kd.int .i64) w A0 l0.length l0) (hc0 : l0.length ≤ c0) (h : slices_Clone_int_int.f l0 = some r) :
    Calls Try.prog 102 #[.slice A0 l0.length c0] w fun e w' => ∃ v0_ : Value, e = .returned (v0_) ∧ Kd.R (Kd.int .i64) 3 w' w.heap.size (fun _ => True) v0_ r ∧ Below w.heap.size w w' := by
  unfold slices_Clone_int_int.f at h
  by_cases hl : l0.length ≤ 1048576
  · rw [if_pos hl] at h
    obtain rfl := sI h; clear h; have HR0 := A0_ hr0; have HC0 := A0_ hc0; have HL := A0_ hl; clear hr0 hc0 hl
    have HB := A0_ (Below.refl w.heap.size w)
    have he : ∀ w : World, (Go.binOp .eql 22 (.slice A0 l0.length c0) (.slice none 0 0)).run Try.prog w = .ok (.bool A0.isNone) w := fun w => by cases A0 <;> kernel_rfl
    cases A0 with
    | none =>
      have hz : l0 = [] := by
        rcases Nat.eq_zero_or_pos l0.length with z | z
        · exact List.length_eq_zero_iff.1 z
        obtain ⟨ad, e, _⟩ := HR0.out.2.2 z
        cases e
      have HZ := A0_ hz; clear hz
      go_enter Try.func102, Try.ntmps102
      go_wp2
      go_ret
      exact ⟨_, rfl, by rw [HZ.out]; exact Kd.R_nil _ _ _ _ _, HB.out⟩
    | some ad =>
      obtain ⟨y233, hy⟩ : ∃ y_ : List Int, y_ = ([] : List Int) := ⟨_, rfl⟩
      have Ny233 := A0_ hy; clear hy
      have Ny236 := A0_ (show l0 = y233 ++ l0 by rw [Ny233.out]; rfl)
      have LMc2 := A0_ (show y233.length + l0.length < 17592186044416 by rw [Ny233.out]; have := HL.out; simp; omega)
      go_enter Try.func102, Try.ntmps102
      go_wp2_with (first | ((with_reducible refine gD (N := 5) rfl ?_); refine Kd.R_lit (Kd.int .i64) _ 3 ?hg (N := 5) ?hd (xs := ([] : List Int)) (inner := []) (ok := fun _ => True) (okp := fun _ => True) ?hr ?hp (fun _ hk => hk) trivial (Below.refl _ _) (Nat.le_refl _) (by simp) ?_; (case hd => rfl); (case hg => rfl); (case hr => first | (go_simp; done) | (go_simp; rfl)); (case hp => exact (Reps.none _ _)); intro v234 w3 ho4 hb hg_ hnew_; clear hg_ hnew_; (first | rw [← Ny233.out] at ho4 | (simp only [Int.reduceToNat] at ho4; rw [← Ny233.out] at ho4)); have HO235 := A0_ (rL ho4 (bZ (zB_ HB))); replace HB := zB HB hb; clear hb ho4) | ((with_reducible refine gB (b := .append) (xs := #[.tmp 5, .tmp 6]) rfl ?_); at_builtin; refine Kd.R_append_rows (Kd.int .i64) (w0 := w) w.heap.size rfl (.tmp 5) (.tmp 6) 22 3 (.int .i64 0) 8 rfl Try.underlying22 info3 rfl (by decide) (by omega) v234 y233 l0 _ _ _ (fun _ => True) (fun _ => False) rfl rfl ?aO ?aR (fun _ _ h => h) (fun _ h => h.elim) ?aF ?aB ?aS ?aL ?_; (case aR => exact zC HR0 HB); (case aB => exact (zB_ HB)); (case aF => exact (fun _ _ => trivial)); (case aO => exact (zR_ HO235)); (case aS => exact (bZ (zB_ HB))); (case aL => have := LMc2.out; omega); intro v237 w5 ho hb hg hat; rw [← Ny236.out] at ho; replace HB := A0_ (hb); have HO238 := A0_ (ho); clear HO235 ho hb hg hat))
      go_ret
      exact ⟨_, rfl, zR_ HO238, (zB_ HB)⟩
  rw [if_neg hl] at h; cases h


/-! ### impl_edgesOf: function 105 -/
def impl_edgesOf.l0 : Nat → List Int → List Int → Int → Int → Option (List Int)
  | 0, _, _, _, _ => none
  | k + 1, x3, x8, x9, x10 => if x10 < x9 then (if 0 ≤ x10 then (if x10 < (x8.length : Int) then (if x10 < (rd x8 x10) then (if x3.length < 17592186044416 then (impl_edgesOf.l0 k (x3 ++ [x10]) x8 x9 (wrap64 (x10 + 1))) else (none)) else (impl_edgesOf.l0 k x3 x8 x9 (wrap64 (x10 + 1)))) else (none)) else (none)) else (some x3)
def impl_edgesOf.f (k : Nat) (l0_0 : List Int) (l0_1 : List Int) : Option (List Int) := impl_edgesOf.l0 k (([] : List Int)) l0_1 (l0_1.length : Int) 0
set_option maxHeartbeats 8000000 in
set_option maxRecDepth 100000 in
theorem impl_edgesOf.calls (k : Nat) (A0_0 : Option Addr) (c0_0 : Nat) (l0_0 : List Int) (A0_1 : Option Addr) (c0_1 : Nat) (l0_1 : List Int) (r : List Int) (w : World) (hr0_0 : Kd.C (Kd.int .i64) w A0_0 l0_0.length l0_0) (hc0_0 : l0_0.length ≤ c0_0) (hr0_1 : Kd.C (Kd.int .i64) w A0_1 l0_1.length l0_1) (hc0_1 : l0_1.length ≤ c0_1) (h : impl_edgesOf.f k l0_0 l0_1 = some r) :
    Calls Try.prog 105 #[.agg #[.slice A0_0 l0_0.length c0_0, .slice A0_1 l0_1.length c0_1]] w fun e w' => ∃ v0_ : Value, e = .returned (v0_) ∧ Kd.R (Kd.int .i64) 3 w' w.heap.size (fun _ => True) v0_ r ∧ Below w.heap.size w w' := by
 have hu29 := Try.underlying29; have HR0_0 := A0_ hr0_0; have HC0_0 := A0_ hc0_0; clear hr0_0 hc0_0; have HR0_1 := A0_ hr0_1; have HC0_1 := A0_ hc0_1; clear hr0_1 hc0_1
 have HB := A0_ (Below.refl w.heap.size w)
 have H : (impl_edgesOf.l0 k (([] : List Int)) l0_1 (l0_1.length : Int) 0) = some r := h
 clear h
 obtain ⟨y389, hy389⟩ : ∃ y_ : List Int, y_ = (([] : List Int)) := ⟨_, rfl⟩
 replace H : (impl_edgesOf.l0 k y389 l0_1 (l0_1.length : Int) 0) = some r := zH hy389 H
 have Ny389 := A0_ hy389; clear hy389; have H' := A0_ H; clear H
 go_enter Try.func105, Try.ntmps105
 go_wp2_with (first | ((with_reducible refine gD (N := 1) rfl ?_); refine zX (N := 1) (cs := #[.slice A0_0 l0_0.length c0_0, .slice A0_1 l0_1.length c0_1]) (t := 29) ?_; intro gb388 hg w2 hbox hb; have BK388 := A0_ (hbox); have GW388 := zG hg HB; have GE388 := zG hg HB; replace HB := zB HB hb; clear hb hbox hg) | ((with_reducible refine gD (N := 6) rfl ?_); refine Kd.R_lit (Kd.int .i64) _ 3 ?hg (N := 6) ?hd (xs := ([] : List Int)) (inner := []) (ok := fun _ => True) (okp := fun _ => True) ?hr ?hp (fun _ hk => hk) trivial (Below.refl _ _) (Nat.le_refl _) (by simp) ?_; (case hd => rfl); (case hg => rfl); (case hr => first | (go_simp; done) | (go_simp; rfl)); (case hp => exact (Reps.none _ _)); intro v390 w3 ho4 hb hg_ hnew_; clear hg_ hnew_; (first | rw [← Ny389.out] at ho4 | (simp only [Int.reduceToNat] at ho4; rw [← Ny389.out] at ho4)); have HO391 := A0_ (rL ho4 (bZ (zB_ HB))); replace BK388 := zK BK388 hb; replace HB := zB HB hb; clear hb ho4; have hcz5_0 := zc0 BK388; have hcz5_1 := zc1 BK388; have hfz5_0 := kF BK388.out 0; have hfz5_1 := kF BK388.out 1))
 go_loopg [3, 10] k (fun kq v3 v10 w' => ∃ (x3_1 : List Int) (x10_1 : Int), v10 = .int .i64 x10_1 ∧ Aside0 (impl_edgesOf.l0 kq x3_1 l0_1 (l0_1.length : Int) x10_1 = some r) ∧ Aside0 (kq ≤ k) ∧ Aside0 (Kd.R (Kd.int .i64) 3 w' w.heap.size (fun _ => True) v3 x3_1) ∧ Aside0 (w'.heap[gb388]? = some (.cells #[(.slice A0_0 l0_0.length c0_0), (.slice A0_1 l0_1.length c0_1)] 29 (0, 0))) ∧ Aside0 (Below w.heap.size w w'))
 case atStart => exact ⟨(y389), (0), zt, H', ⟨Nat.le_refl _⟩, ⟨zR_ HO391⟩, ⟨zK_ BK388⟩, ⟨zB_ HB⟩⟩
 case round =>
  clear H'; (try clear c1); (try clear p2); (try clear hcz5_0); (try clear hcz5_1); (try clear hfz5_0); (try clear hfz5_1); obtain ⟨x3_1, x10_1, rfl, HA, HK1, HO_3, BK388, HB⟩ := hrel
  cases gk with
  | zero => exact absurd HA.out (by simp [impl_edgesOf.l0])
  | succ k1 =>
   have H := HA.out; clear HA; simp only [impl_edgesOf.l0] at H
   by_cases c6 : x10_1 < (l0_1.length : Int)
   ·rw [if_pos c6] at H
    have c6b0 := dT c6; clear c6
    by_cases c7 : 0 ≤ x10_1
    ·rw [if_pos c7] at H
     have c7b0 := dT c7; clear c7
     by_cases c8 : x10_1 < (l0_1.length : Int)
     ·rw [if_pos c8] at H
      have c8b0 := dT c8; clear c8
      by_cases c9 : x10_1 < (rd l0_1 x10_1)
      ·rw [if_pos c9] at H
       have c9b0 := dT c9; clear c9
       by_cases c10 : x3_1.length < 17592186044416
       ·rw [if_pos c10] at H
        have LMc10 := A0_ c10; clear c10
        obtain ⟨y393, hy393⟩ : ∃ y_ : List Int, y_ = (x3_1 ++ [x10_1]) := ⟨_, rfl⟩
        replace H : (impl_edgesOf.l0 k1 y393 l0_1 (l0_1.length : Int) (wrap64 (x10_1 + 1))) = some r := zH hy393 H
        have Ny393 := A0_ hy393; clear hy393; have H' := A0_ H; clear H
        have p392 : 0 ≤ (x10_1 : Int) := zd
        have q392 : x10_1 < (l0_1.length : Int) := zd
        obtain ⟨ad392, e392, hx392_0⟩ := tI HR0_1.out x10_1 p392 q392
        cases e392
        try replace hx392_0 := (HB.out.cell (wL w _ hx392_0)).trans hx392_0
        replace p392 := eq_true p392; replace q392 := eq_true q392
        go_wp2_with (first | ((with_reducible refine gB (b := .append) (xs := #[.tmp 18, .tmp 20]) rfl ?_); at_builtin; refine Kd.R_append (Kd.int .i64) (w0 := w) w.heap.size rfl (.tmp 18) (.tmp 20) 22 3 (.int .i64 0) 8 rfl Try.underlying22 info3 rfl (by decide) (by omega) u3 x3_1 x10_1 [.int .i64 x10_1] (fun _ => True) (fun _ => False) rfl rfl ?aP (fun _ hk => hk.elim) ?aF ?aO ?aB ?aS ?aL ?_; (case aP => exact rfl); (case aB => exact (zB_ HB)); (case aF => exact (fun _ _ => trivial)); (case aO => exact (zR_ HO_3)); (case aS => exact (bZ (zB_ HB))); (case aL => have := LMc10.out; omega); intro v394 w11 ho hb hg hat; rw [← Ny393.out] at ho; replace BK388 := A0_ (blk_grown (g := gb388) (o := .cells #[.slice A0_0 l0_0.length c0_0, .slice (some ad392) l0_1.length c0_1] 29 (0, 0)) (zK_ BK388) hg (Kd.R_ne HO_3.out BK388.out (by decide))); replace HB := A0_ (hb); have HO395 := A0_ (ho); clear HO_3 ho hb hg hat))
        go_roundg k1
        case measure => have := HK1.out; omega
        case rel => exact ⟨(y393), (wrap64 (x10_1 + 1)), zt, H', ⟨by have := HK1.out; omega⟩, ⟨zR_ HO395⟩, ⟨zK_ BK388⟩, ⟨zB_ HB⟩⟩
       rw [if_neg c10] at H
       exact absurd H (by simp)
      rw [if_neg c9] at H; have c9b0 := dF c9; clear c9; have H' := A0_ H; clear H
      have p392 : 0 ≤ (x10_1 : Int) := zd
      have q392 : x10_1 < (l0_1.length : Int) := zd
      obtain ⟨ad392, e392, hx392_0⟩ := tI HR0_1.out x10_1 p392 q392
      cases e392
      try replace hx392_0 := (HB.out.cell (wL w _ hx392_0)).trans hx392_0
      replace p392 := eq_true p392; replace q392 := eq_true q392
      go_wp2
      go_roundg k1
      case measure => have := HK1.out; omega
      case rel => exact ⟨(x3_1), (wrap64 (x10_1 + 1)), zt, H', ⟨by have := HK1.out; omega⟩, ⟨zR_ HO_3⟩, ⟨zK_ BK388⟩, ⟨zB_ HB⟩⟩
     rw [if_neg c8] at H
     exact absurd H (by simp)
    rw [if_neg c7] at H
    exact absurd H (by simp)
   rw [if_neg c6] at H; have c6b0 := dF c6; clear c6; obtain rfl := sI H
   go_wp2
   go_ret
   exact ⟨_, by first | rfl | (simp [*] <;> rfl), zR_ HO_3, zB_ HB⟩

end Go.Proofs.Ytmcgkckdnelcdaa.PFnExactCoverConj
