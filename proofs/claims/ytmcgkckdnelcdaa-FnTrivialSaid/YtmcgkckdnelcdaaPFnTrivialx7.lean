-- Made by a program of this session (wip/tools) out of the loaded program; not trusted: Lean checks it.
import Derived.Test.YtmcgkckdnelcdaaPFnTrivialx0
import Derived.Test.YtmcgkckdnelcdaaPFnTrivialx2
import Derived.Test.YtmcgkckdnelcdaaPFnTrivialx3
import Derived.Test.YtmcgkckdnelcdaaPFnTrivialx4
import Derived.Test.YtmcgkckdnelcdaaPFnTrivialx5
import Derived.Test.YtmcgkckdnelcdaaPFnTrivialx6
-- packed
namespace Go.Proofs.Ytmcgkckdnelcdaa.PFnTrivial
open Go.RowKit Go.Proofs.YtmcgkckdnelcdaaW.PrintWords Go.Proofs.YtmcgkckdnelcdaaW.PrintLast Go.Proofs.YtmcgkckdnelcdaaW.PrintMore
attribute [local go_sem] max2_int min2_int max_two min_two max_three min_three max_four min_four   -- for this text's walks alone
set_option linter.unusedVariables false
set_option linter.unusedSimpArgs false

/-! ### impl_CoverWhole: function 35 -/
def impl_CoverWhole.f (k : Nat) (l0_0 : List Int) (l0_1 : List Int) (a1 : Int) (l2 : List (List Int)) : Option (Bool) := (impl_VoltageValid.f k l0_0 l0_1 a1 l2).bind fun t263 => (if t263 = true then ((impl_cover.f k l0_0 l0_1 a1 l2).bind fun bt264 => ((impl_MapValid.f k bt264.1 bt264.2).bind fun t270 => (some t270))) else (some false))
set_option maxHeartbeats 8000000 in
set_option maxRecDepth 100000 in
theorem impl_CoverWhole.calls (k : Nat) (A0_0 : Option Addr) (c0_0 : Nat) (l0_0 : List Int) (A0_1 : Option Addr) (c0_1 : Nat) (l0_1 : List Int) (a1 : Int) (A2 : Option Addr) (c2 : Nat) (l2 : List (List Int)) (r : Bool) (w : World) (hr0_0 : Kd.C (Kd.int .i64) w A0_0 l0_0.length l0_0) (hc0_0 : l0_0.length ≤ c0_0) (hr0_1 : Kd.C (Kd.int .i64) w A0_1 l0_1.length l0_1) (hc0_1 : l0_1.length ≤ c0_1) (hr2 : Kd.C (Kd.slice 3 (Kd.int .i64)) w A2 l2.length l2) (hc2 : l2.length ≤ c2) (h : impl_CoverWhole.f k l0_0 l0_1 a1 l2 = some r) :
    Calls Try.prog 35 #[.agg #[.slice A0_0 l0_0.length c0_0, .slice A0_1 l0_1.length c0_1], .int .i64 a1, .slice A2 l2.length c2] w fun e w' => e = .returned (.bool r) ∧ Below w.heap.size w w' := by
 have hu29 := Try.underlying29; have HR0_0 := A0_ hr0_0; have HC0_0 := A0_ hc0_0; clear hr0_0 hc0_0; have HR0_1 := A0_ hr0_1; have HC0_1 := A0_ hc0_1; clear hr0_1 hc0_1; have HR2 := A0_ hr2; have HC2 := A0_ hc2; clear hr2 hc2
 have HB := A0_ (Below.refl w.heap.size w)
 have H : ((impl_VoltageValid.f k l0_0 l0_1 a1 l2).bind fun t263 => (if t263 = true then ((impl_cover.f k l0_0 l0_1 a1 l2).bind fun bt264 => ((impl_MapValid.f k bt264.1 bt264.2).bind fun t270 => (some t270))) else (some false))) = some r := h
 clear h; obtain ⟨t263, A4, H⟩ := zbind H
 by_cases c5 : t263 = true
 ·subst c5
  rw [if_pos rfl] at H; obtain ⟨⟨t264, t267⟩, A6, H⟩ := zbind H; dsimp only at H; obtain ⟨t270, A7, H⟩ := zbind H; obtain rfl := sI H
  go_enter Try.func35, Try.ntmps35
  go_wp2_with (first | ((with_reducible refine gD (N := 3) rfl ?_); refine zX (N := 3) (cs := #[.slice A0_0 l0_0.length c0_0, .slice A0_1 l0_1.length c0_1]) (t := 29) ?_; intro gb262 hg w8 hbox hb; have BK262 := A0_ (hbox); have GW262 := zG hg HB; have GE262 := zG hg HB; replace HB := zB HB hb; clear hb hbox hg; have hcz9_0 := zc0 BK262; have hcz9_1 := zc1 BK262; have hfz9_0 := kF BK262.out 0; have hfz9_1 := kF BK262.out 1) | ((with_reducible refine gC (f := 20) rfl ?_); refine zJ (some 10) Try.func20 #[.agg #[.slice A0_0 l0_0.length c0_0, .slice A0_1 l0_1.length c0_1], .int .i64 a1, .slice A2 l2.length c2] ?_; (with_reducible refine (impl_VoltageValid.calls k _ _ l0_0 _ _ l0_1 a1 _ _ l2 true _ ?side1 ?side2 ?side3 ?side4 ?side5 ?side6 A4.out).mono ?_); (case side1 => exact zC HR0_0 HB); (case side2 => exact HC0_0.out); (case side3 => exact zC HR0_1 HB); (case side4 => exact HC0_1.out); (case side5 => exact zC HR2 HB); (case side6 => exact HC2.out); rintro e w10 ⟨rfl, hb⟩; refine ⟨_, rfl, ?_⟩; replace BK262 := zK BK262 hb; replace HB := zB HB hb; (try clear hb); have hcz11_0 := zc0 BK262; have hcz11_1 := zc1 BK262; have hfz11_0 := kF BK262.out 0; have hfz11_1 := kF BK262.out 1) | (go_at_call 64; (with_reducible refine (impl_cover.calls k _ _ l0_0 _ _ l0_1 a1 _ _ l2 t264 t267 _ ?side1 ?side2 ?side3 ?side4 ?side5 ?side6 A6.out).mono ?_); (case side1 => exact zC HR0_0 HB); (case side2 => exact HC0_0.out); (case side3 => exact zC HR0_1 HB); (case side4 => exact HC0_1.out); (case side5 => exact zC HR2 HB); (case side6 => exact HC2.out); rintro e w12 ⟨v265, v268, rfl, ho0, ho1, hb⟩; have HO266 := A0_ (rL ho0 (bZ (zB_ HB))); have HO269 := A0_ (rL ho1 (bZ (zB_ HB))); replace BK262 := zK BK262 hb; replace HB := zB HB hb; (try clear hb); (try clear ho0); (try clear ho1); obtain ⟨Ao13, co13, eo13⟩ := rS HO266.out; subst eo13; obtain ⟨Ao14, co14, eo14⟩ := rS HO269.out; subst eo14) | (go_at_call 59; (with_reducible refine (impl_MapValid.calls k (fun k_ => some k_ = (.slice Ao13 t264.length co13 : Value).ownBlock) _ _ t264 (fun k_ => some k_ = (.slice Ao14 t267.length co14 : Value).ownBlock) _ _ t267 t270 _ ?side1 ?side2 A7.out).mono ?_); (case side1 => exact Kd.R_V (Kd.R_tight rfl (rY (HO266.out) BK262.out (by decide)))); (case side2 => exact Kd.R_V (Kd.R_tight rfl (rY (HO269.out) BK262.out (by decide)))); rintro e w15 ⟨rfl, hb⟩; replace HO266 := zR HO266 hb; replace HO269 := zR HO269 hb; replace BK262 := zK BK262 hb; replace HB := zB HB hb; (try clear hb)))
  go_ret
  exact ⟨by first | rfl | (simp [*] <;> rfl), zB_ HB⟩
 replace c5 := Bool.eq_false_iff.mpr c5; subst c5
 rw [if_neg (show ¬ (false = true) by decide)] at H
 obtain rfl := sI H
 go_enter Try.func35, Try.ntmps35
 go_wp2_with (first | ((with_reducible refine gD (N := 3) rfl ?_); refine zX (N := 3) (cs := #[.slice A0_0 l0_0.length c0_0, .slice A0_1 l0_1.length c0_1]) (t := 29) ?_; intro gb262 hg w16 hbox hb; have BK262 := A0_ (hbox); have GW262 := zG hg HB; have GE262 := zG hg HB; replace HB := zB HB hb; clear hb hbox hg; have hcz17_0 := zc0 BK262; have hcz17_1 := zc1 BK262; have hfz17_0 := kF BK262.out 0; have hfz17_1 := kF BK262.out 1) | ((with_reducible refine gC (f := 20) rfl ?_); refine zJ (some 10) Try.func20 #[.agg #[.slice A0_0 l0_0.length c0_0, .slice A0_1 l0_1.length c0_1], .int .i64 a1, .slice A2 l2.length c2] ?_; (with_reducible refine (impl_VoltageValid.calls k _ _ l0_0 _ _ l0_1 a1 _ _ l2 false _ ?side1 ?side2 ?side3 ?side4 ?side5 ?side6 A4.out).mono ?_); (case side1 => exact zC HR0_0 HB); (case side2 => exact HC0_0.out); (case side3 => exact zC HR0_1 HB); (case side4 => exact HC0_1.out); (case side5 => exact zC HR2 HB); (case side6 => exact HC2.out); rintro e w18 ⟨rfl, hb⟩; refine ⟨_, rfl, ?_⟩; replace BK262 := zK BK262 hb; replace HB := zB HB hb; (try clear hb)))
 go_ret
 exact ⟨by first | rfl | (simp [*] <;> rfl), zB_ HB⟩

/-! ### impl_mul: function 71 -/
def impl_mul.l0 : Nat → List Int → List Int → List Int → Int → Int → Option (List Int)
  | 0, _, _, _, _, _ => none
  | k + 1, x1, x5, x11, x12, x13 => if x13 < x12 then (if 0 ≤ x13 then (if x13 < (x11.length : Int) then (if 0 ≤ (rd x11 x13) then (if (rd x11 x13) < (x1.length : Int) then (if x13 < (x5.length : Int) then (impl_mul.l0 k x1 (x5.set (x13 : Int).toNat (rd x1 (rd x11 x13))) x11 x12 (wrap64 (x13 + 1))) else (none)) else (none)) else (none)) else (none)) else (none)) else (some x5)
def impl_mul.f (k : Nat) (l0 : List Int) (l1 : List Int) : Option (List Int) := if 0 ≤ (l0.length : Int) then (if ((l0.length : Int) : Int).toNat ≤ 35184372088832 then (impl_mul.l0 k l1 (List.replicate ((l0.length : Int) : Int).toNat 0) l0 (l0.length : Int) 0) else (none)) else (none)
set_option maxHeartbeats 8000000 in
set_option maxRecDepth 100000 in
theorem impl_mul.calls (k : Nat) (A0 : Option Addr) (c0 : Nat) (l0 : List Int) (A1 : Option Addr) (c1 : Nat) (l1 : List Int) (r : List Int) (w : World) (hr0 : Kd.C (Kd.int .i64) w A0 l0.length l0) (hc0 : l0.length ≤ c0) (hr1 : Kd.C (Kd.int .i64) w A1 l1.length l1) (hc1 : l1.length ≤ c1) (h : impl_mul.f k l0 l1 = some r) :
    Calls Try.prog 71 #[.slice A0 l0.length c0, .slice A1 l1.length c1] w fun e w' => ∃ v0_ : Value, e = .returned (v0_) ∧ Kd.R (Kd.int .i64) 3 w' w.heap.size (fun _ => True) v0_ r ∧ Below w.heap.size w w' := by
 have HR0 := A0_ hr0; have HC0 := A0_ hc0; clear hr0 hc0; have HR1 := A0_ hr1; have HC1 := A0_ hc1; clear hr1 hc1
 have HB := A0_ (Below.refl w.heap.size w)
 have H : (if 0 ≤ (l0.length : Int) then (if ((l0.length : Int) : Int).toNat ≤ 35184372088832 then (impl_mul.l0 k l1 (List.replicate ((l0.length : Int) : Int).toNat 0) l0 (l0.length : Int) 0) else (none)) else (none)) = some r := h
 clear h
 by_cases c3 : 0 ≤ (l0.length : Int)
 ·rw [if_pos c3] at H
  have c3b0 := eq_true c3; have c3b1 := dT c3; clear c3
  by_cases c4 : ((l0.length : Int) : Int).toNat ≤ 35184372088832
  ·rw [if_pos c4] at H
   have c4b0 := eq_true c4; have c4b1 := dT c4; clear c4
   obtain ⟨y271, hy271⟩ : ∃ y_ : List Int, y_ = (List.replicate ((l0.length : Int) : Int).toNat 0) := ⟨_, rfl⟩
   replace H : (impl_mul.l0 k l1 y271 l0 (l0.length : Int) 0) = some r := zH hy271 H
   have Ny271 := A0_ hy271; clear hy271; have H' := A0_ H; clear H
   go_enter Try.func71, Try.ntmps71
   go_wp2_with (first | ((with_reducible refine gD (N := 10) rfl ?_); refine Kd.R_make (Kd.int .i64) _ 3 rfl (N := 10) rfl 22 _ _ rfl (l0.length : Int) rfl rfl Try.underlying22 (.int .i64 0) 8 info3 rfl (by decide) (by omega) 0 (ok := fun _ => True) (okp := fun _ => True) rfl (fun _ hk => hk) trivial (zd) (Nat.le_trans (Nat.mul_le_mul_right _ (zd : (l0.length : Int).toNat ≤ 35184372088832)) (by omega)) (Below.refl _ _) (Nat.le_refl _) ?_; intro v272 w5 ho6 hb hg_ hnew_; clear hg_ hnew_; (first | rw [← Ny271.out] at ho6 | (simp only [Int.reduceToNat] at ho6; rw [← Ny271.out] at ho6)); have HO273 := A0_ (rL ho6 (bZ (zB_ HB))); replace HB := zB HB hb; clear hb ho6))
   go_loopg [13] k (fun kq v13 w' => ∃ (x5_1 : List Int) (x13_1 : Int), v13 = .int .i64 x13_1 ∧ Aside0 (impl_mul.l0 kq l1 x5_1 l0 (l0.length : Int) x13_1 = some r) ∧ Aside0 (kq ≤ k) ∧ Aside0 (Kd.R (Kd.int .i64) 3 w' w.heap.size (fun _ => True) v272 x5_1) ∧ Aside0 (Below w.heap.size w w'))
   case atStart => exact ⟨(y271), (0), zt, H', ⟨Nat.le_refl _⟩, ⟨zR_ HO273⟩, ⟨zB_ HB⟩⟩
   case round =>
    clear H'; (try clear c1); (try clear p2); (try clear c3); (try clear c3b0); (try clear c3b1); (try clear c4); (try clear c4b0); (try clear c4b1); obtain ⟨x5_1, x13_1, rfl, HA, HK1, HO_5, HB⟩ := hrel
    cases gk with
    | zero => exact absurd HA.out (by simp [impl_mul.l0])
    | succ k1 =>
     have H := HA.out; clear HA; simp only [impl_mul.l0] at H
     by_cases c7 : x13_1 < (l0.length : Int)
     ·rw [if_pos c7] at H
      have c7b0 := dT c7; clear c7
      by_cases c8 : 0 ≤ x13_1
      ·rw [if_pos c8] at H
       have c8b0 := dT c8; clear c8
       by_cases c9 : x13_1 < (l0.length : Int)
       ·rw [if_pos c9] at H
        have c9b0 := dT c9; clear c9
        by_cases c10 : 0 ≤ (rd l0 x13_1)
        ·rw [if_pos c10] at H
         have c10b0 := dT c10; clear c10
         by_cases c11 : (rd l0 x13_1) < (l1.length : Int)
         ·rw [if_pos c11] at H
          have c11b0 := dT c11; clear c11
          by_cases c12 : x13_1 < (x5_1.length : Int)
          ·rw [if_pos c12] at H
           have c12b0 := dT c12; clear c12
           obtain ⟨y276, hy276⟩ : ∃ y_ : List Int, y_ = (x5_1.set (x13_1 : Int).toNat (rd l1 (rd l0 x13_1))) := ⟨_, rfl⟩
           replace H : (impl_mul.l0 k1 l1 y276 l0 (l0.length : Int) (wrap64 (x13_1 + 1))) = some r := zH hy276 H
           have Ny276 := A0_ hy276; clear hy276; have H' := A0_ H; clear H
           have p274 : 0 ≤ (x13_1 : Int) := zd
           have q274 : x13_1 < (l0.length : Int) := zd
           obtain ⟨ad274, e274, hx274_0⟩ := tI HR0.out x13_1 p274 q274
           cases e274
           try replace hx274_0 := (HB.out.cell (wL w _ hx274_0)).trans hx274_0
           replace p274 := eq_true p274; replace q274 := eq_true q274
           have p275 : 0 ≤ ((rd l0 x13_1) : Int) := zd
           have q275 : (rd l0 x13_1) < (l1.length : Int) := zd
           obtain ⟨ad275, e275, hx275_0⟩ := tI HR1.out (rd l0 x13_1) p275 q275
           cases e275
           try replace hx275_0 := (HB.out.cell (wL w _ hx275_0)).trans hx275_0
           replace p275 := eq_true p275; replace q275 := eq_true q275
           have p13 : 0 ≤ (x13_1 : Int) := zd
           have q13 : (x13_1 : Int) < ((x5_1.length : Int) : Int) := zd
           obtain ⟨go13, co13, eo13, gb13, gl13, cl13, HG13⟩ := Kd.R_form HO_5.out (by omega)
           (first | cases eo13 | (injection eo13 with ea_ en_ ec_; (first | subst ea_ | (injection ea_ with ea_; subst ea_)); subst ec_; clear en_))
           have GB13 := A0_ gb13; have GG13 := A0_ HG13; clear gb13 gl13 HG13
           obtain ⟨hx13_0, hf13_0⟩ := Kd.R_celln 0 HO_5.out (x13_1 : Int) p13 q13
           replace p13 := eq_true p13; replace q13 := eq_true q13
           have HP14 := Kd.R_putg HO_5.out (x13_1 : Int) (rd l1 (rd l0 x13_1))
           go_wp2_with (first | ((with_reducible refine gS (t := 3) (p := 24) rfl ?_); refine store_event (t := 3) (p := 24) (v := ?vo_w15) (w1 := (wr.setCell ⟨go13, (x13_1 : Int).toNat, none⟩ (.int .i64 (rd l1 (rd l0 x13_1))))) ?hg ?ho ?hn ?hr ?_; (case ho => rfl); (case hg => rfl); (case hn => rfl); (case hr => first | (go_simp; done) | (go_simp; rfl)); intro w15 hw; have hg : wr.grownBy w15 (some go13) := (by rw [hw]; exact HP14.2); have hp_ : Kd.R (Kd.int .i64) 3 w15 w.heap.size (fun _ => True) (.slice (some ⟨go13, 0, none⟩) x5_1.length co13) y276 := (by rw [hw, Ny276.out]; exact HP14.1); clear HP14; replace HO_5 := A0_ (hp_); replace HB := A0_ ((by rw [hw]; exact bS (HB.out) GB13.out : Below w.heap.size w w15)); clear hg hw hp_))
           go_roundg k1
           case measure => have := HK1.out; omega
           case rel => exact ⟨(y276), (wrap64 (x13_1 + 1)), zt, H', ⟨by have := HK1.out; omega⟩, ⟨zR_ HO_5⟩, ⟨zB_ HB⟩⟩
          rw [if_neg c12] at H
          exact absurd H (by simp)
         rw [if_neg c11] at H
         exact absurd H (by simp)
        rw [if_neg c10] at H
        exact absurd H (by simp)
       rw [if_neg c9] at H
       exact absurd H (by simp)
      rw [if_neg c8] at H
      exact absurd H (by simp)
     rw [if_neg c7] at H; have c7b0 := dF c7; clear c7; obtain rfl := sI H
     go_wp2
     go_ret
     exact ⟨_, by first | rfl | (simp [*] <;> rfl), zR_ HO_5, zB_ HB⟩
  rw [if_neg c4] at H
  exact absurd H (by simp)
 rw [if_neg c3] at H
 exact absurd H (by simp)

/-! ### impl_cyclesOf: function 75 -/
mutual
def impl_cyclesOf.l0 : Nat → List Int → List (List Int) → List Bool → Int → Int → Option ((List (List Int)))
  | 0, _, _, _, _, _ => none
  | k + 1, x0, x3, x4, x13, x14 => if x14 < x13 then (impl_cyclesOf.l1 k x0 x3 x4 (([] : List Int)) x14 x13 x14) else (some x3)
def impl_cyclesOf.l1 : Nat → List Int → List (List Int) → List Bool → List Int → Int → Int → Int → Option ((List (List Int)))
  | 0, _, _, _, _, _, _, _ => none
  | k + 1, x0, x3, x4, x6, x7, x13, x14 => if 0 ≤ x7 then (if x7 < (x4.length : Int) then (if rdOf false x4 x7 = true then (if (x6.length : Int) > 0 then (if x3.length < 5864062014805 then (impl_cyclesOf.l0 k x0 (x3 ++ [x6]) x4 x13 (wrap64 (x14 + 1))) else (none)) else (impl_cyclesOf.l0 k x0 x3 x4 x13 (wrap64 (x14 + 1)))) else (if x6.length < 17592186044416 then (if x7 < (x0.length : Int) then (impl_cyclesOf.l1 k x0 x3 (x4.set (x7 : Int).toNat true) (x6 ++ [x7]) (rd x0 x7) x13 x14) else (none)) else (none))) else (none)) else (none)
end
def impl_cyclesOf.f (k : Nat) (l0 : List Int) : Option ((List (List Int))) := if 0 ≤ (l0.length : Int) then (if ((l0.length : Int) : Int).toNat ≤ 281474976710656 then (impl_cyclesOf.l0 k l0 (([] : List (List Int))) (List.replicate ((l0.length : Int) : Int).toNat false) (l0.length : Int) 0) else (none)) else (none)
set_option maxHeartbeats 8000000 in
set_option maxRecDepth 100000 in
theorem impl_cyclesOf.calls (k : Nat) (A0 : Option Addr) (c0 : Nat) (l0 : List Int) (r : List (List Int)) (w : World) (hr0 : Kd.C (Kd.int .i64) w A0 l0.length l0) (hc0 : l0.length ≤ c0) (h : impl_cyclesOf.f k l0 = some r) :
    Calls Try.prog 75 #[.slice A0 l0.length c0] w fun e w' => ∃ v0_ : Value, e = .returned (v0_) ∧ Kd.S (Kd.slice 3 (Kd.int .i64)) 22 w' w.heap.size (fun _ => True) v0_ r ∧ Below w.heap.size w w' := by
 have HR0 := A0_ hr0; have HC0 := A0_ hc0; clear hr0 hc0
 have HB := A0_ (Below.refl w.heap.size w)
 have H : (if 0 ≤ (l0.length : Int) then (if ((l0.length : Int) : Int).toNat ≤ 281474976710656 then (impl_cyclesOf.l0 k l0 (([] : List (List Int))) (List.replicate ((l0.length : Int) : Int).toNat false) (l0.length : Int) 0) else (none)) else (none)) = some r := h
 clear h
 obtain ⟨y277, hy277⟩ : ∃ y_ : List (List Int), y_ = (([] : List (List Int))) := ⟨_, rfl⟩
 replace H : (if 0 ≤ (l0.length : Int) then (if ((l0.length : Int) : Int).toNat ≤ 281474976710656 then (impl_cyclesOf.l0 k l0 y277 (List.replicate ((l0.length : Int) : Int).toNat false) (l0.length : Int) 0) else (none)) else (none)) = some r := zH hy277 H
 have Ny277 := A0_ hy277; clear hy277
 by_cases c2 : 0 ≤ (l0.length : Int)
 ·rw [if_pos c2] at H
  have c2b0 := eq_true c2; have c2b1 := dT c2; clear c2
  by_cases c3 : ((l0.length : Int) : Int).toNat ≤ 281474976710656
  ·rw [if_pos c3] at H
   have c3b0 := eq_true c3; have c3b1 := dT c3; clear c3
   obtain ⟨y280, hy280⟩ : ∃ y_ : List Bool, y_ = (List.replicate ((l0.length : Int) : Int).toNat false) := ⟨_, rfl⟩
   replace H : (impl_cyclesOf.l0 k l0 y277 y280 (l0.length : Int) 0) = some r := zH hy280 H
   have Ny280 := A0_ hy280; clear hy280; have H' := A0_ H; clear H
   go_enter Try.func75, Try.ntmps75
   go_wp2_with (first | ((with_reducible refine gD (N := 8) rfl ?_); refine Kd.S_lit (Kd.slice 3 (Kd.int .i64)) _ 22 ?hg (N := 8) ?hd (xs := ([] : List (List Int))) (inner := []) (ok := fun _ => True) (okp := fun _ => True) ?hr ?hp (fun _ hk => hk) trivial (Below.refl _ _) (Nat.le_refl _) (by simp) ?_; (case hd => rfl); (case hg => rfl); (case hr => first | (go_simp; done) | (go_simp; rfl)); (case hp => exact (Reps.none _ _)); intro v278 w4 ho5 hb hg_ hnew_; clear hg_ hnew_; (first | rw [← Ny277.out] at ho5 | (simp only [Int.reduceToNat] at ho5; rw [← Ny277.out] at ho5)); have HO279 := A0_ (Kd.S_lower ho5 (bZ (zB_ HB))); replace HB := zB HB hb; clear hb ho5) | ((with_reducible refine gD (N := 11) rfl ?_); refine Kd.R_make Kd.bool _ 4 rfl (N := 11) rfl 75 _ _ rfl (l0.length : Int) rfl rfl Try.underlying75 (.bool false) 1 info4 rfl (by decide) (by omega) false (ok := fun _ => True) (okp := fun _ => True) rfl (fun _ hk => hk) trivial (zd) (Nat.le_trans (Nat.mul_le_mul_right _ (zd : (l0.length : Int).toNat ≤ 281474976710656)) (by omega)) (Below.refl _ _) (Nat.le_refl _) ?_; intro v281 w6 ho7 hb hg_ hnew_; clear hg_ hnew_; (first | rw [← Ny280.out] at ho7 | (simp only [Int.reduceToNat] at ho7; rw [← Ny280.out] at ho7)); replace HO279 := zS HO279 hb; have HO282 := A0_ (rL ho7 (bZ (zB_ HB))); replace HB := zB HB hb; clear hb ho7))
   go_loopg [3, 14] k (fun kq v3 v14 w' => ∃ (x3_1 : List (List Int)) (x4_1 : List Bool) (x14_1 : Int), v14 = .int .i64 x14_1 ∧ Aside0 (impl_cyclesOf.l0 kq l0 x3_1 x4_1 (l0.length : Int) x14_1 = some r) ∧ Aside0 (kq ≤ k) ∧ Aside0 (Kd.S (Kd.slice 3 (Kd.int .i64)) 22 w' w.heap.size (fun _ => True) v3 x3_1) ∧ Aside0 (Kd.R Kd.bool 4 w' w.heap.size (fun _ => True) v281 x4_1) ∧ Aside0 (Below w.heap.size w w'))
   case atStart => exact ⟨(y277), (y280), (0), zt, H', ⟨Nat.le_refl _⟩, ⟨zS_ HO279⟩, ⟨zR_ HO282⟩, ⟨zB_ HB⟩⟩
   case round =>
    clear H'; (try clear c2); (try clear c2b0); (try clear c2b1); (try clear p2); (try clear c3); (try clear c3b0); (try clear c3b1); (try clear c7); obtain ⟨x3_1, x4_1, x14_1, rfl, HA, HK1, HO_3, HO_4, HB⟩ := hrel
    cases gk with
    | zero => exact absurd HA.out (by simp [impl_cyclesOf.l0])
    | succ k1 =>
     have H := HA.out; clear HA; simp only [impl_cyclesOf.l0] at H
     by_cases c8 : x14_1 < (l0.length : Int)
     ·rw [if_pos c8] at H
      have c8b0 := dT c8; clear c8
      obtain ⟨y283, hy283⟩ : ∃ y_ : List Int, y_ = (([] : List Int)) := ⟨_, rfl⟩
      replace H : (impl_cyclesOf.l1 k1 l0 x3_1 x4_1 y283 x14_1 (l0.length : Int) x14_1) = some r := zH hy283 H
      have Ny283 := A0_ hy283; clear hy283; have H' := A0_ H; clear H
      go_wp2_with (first | ((with_reducible refine gD (N := 17) rfl ?_); refine Kd.R_lit (Kd.int .i64) _ 3 ?hg (N := 17) ?hd (xs := ([] : List Int)) (inner := []) (ok := fun _ => True) (okp := fun _ => True) ?hr ?hp (fun _ hk => hk) trivial (Below.refl _ _) (Nat.le_refl _) (by simp) ?_; (case hd => rfl); (case hg => rfl); (case hr => first | (go_simp; done) | (go_simp; rfl)); (case hp => exact (Reps.none _ _)); intro v284 w9 ho10 hb hg_ hnew_; clear hg_ hnew_; (first | rw [← Ny283.out] at ho10 | (simp only [Int.reduceToNat] at ho10; rw [← Ny283.out] at ho10)); replace HO_3 := A0_ (Kd.S_elder' (zS_ HO_3) (Kd.R_base ho10) hb); replace HO_4 := zR HO_4 hb; have HO285 := A0_ (rL ho10 (bZ (zB_ HB))); replace HB := zB HB hb; clear hb ho10))
      go_loopg [6, 7] k1 (fun kq v6 v7 w' => ∃ (x4_2 : List Bool) (x6_2 : List Int) (x7_2 : Int), v7 = .int .i64 x7_2 ∧ Aside0 (impl_cyclesOf.l1 kq l0 x3_1 x4_2 x6_2 x7_2 (l0.length : Int) x14_1 = some r) ∧ Aside0 (kq ≤ k1) ∧ Aside0 (Kd.S (Kd.slice 3 (Kd.int .i64)) 22 w' w.heap.size (fun k_ => some k_ ≠ (v6 : Value).ownBlock) u3 x3_1) ∧ Aside0 (Kd.R Kd.bool 4 w' w.heap.size (fun _ => True) v281 x4_2) ∧ Aside0 (Kd.R (Kd.int .i64) 3 w' w.heap.size (fun _ => True) v6 x6_2) ∧ Aside0 (Below w.heap.size w w'))
      case atStart => exact ⟨(x4_1), (y283), (x14_1), zt, H', ⟨Nat.le_refl _⟩, ⟨zmS HO_3 (fun _ hk => hk.2)⟩, ⟨zR_ HO_4⟩, ⟨zR_ HO285⟩, ⟨zB_ HB⟩⟩
      case round =>
       clear H'; (try clear c2); (try clear c2b0); (try clear c2b1); (try clear p2); (try clear c3); (try clear c3b0); (try clear c3b1); (try clear c7); (try clear c8); (try clear c8b0); (try clear p2); obtain ⟨x4_2, x6_2, x7_2, rfl, HA, HK2, HO_3, HO_4, HO_6, HB⟩ := hrel
       cases gk with
       | zero => exact absurd HA.out (by simp [impl_cyclesOf.l1])
       | succ k2 =>
        have H := HA.out; clear HA; simp only [impl_cyclesOf.l1] at H
        by_cases c11 : 0 ≤ x7_2
        ·rw [if_pos c11] at H
         have c11b0 := dT c11; clear c11
         by_cases c12 : x7_2 < (x4_2.length : Int)
         ·rw [if_pos c12] at H
          have c12b0 := dT c12; clear c12
          obtain ⟨bq13, hbq13⟩ : ∃ b_ : Bool, b_ = (rdOf false x4_2 x7_2) := ⟨_, rfl⟩
          replace H : (if bq13 = true then (if (x6_2.length : Int) > 0 then (if x3_1.length < 5864062014805 then (impl_cyclesOf.l0 k2 l0 (x3_1 ++ [x6_2]) x4_2 (l0.length : Int) (wrap64 (x14_1 + 1))) else (none)) else (impl_cyclesOf.l0 k2 l0 x3_1 x4_2 (l0.length : Int) (wrap64 (x14_1 + 1)))) else (if x6_2.length < 17592186044416 then (if x7_2 < (l0.length : Int) then (impl_cyclesOf.l1 k2 l0 x3_1 (x4_2.set (x7_2 : Int).toNat true) (x6_2 ++ [x7_2]) (rd l0 x7_2) (l0.length : Int) x14_1) else (none)) else (none))) = some r := by rw [← hbq13] at H; exact H
          have Nbq13 := A0_ hbq13; clear hbq13
          by_cases c14 : bq13 = true
          ·subst c14
           rw [if_pos rfl] at H
           by_cases c15 : (x6_2.length : Int) > 0
           ·rw [if_pos c15] at H
            have c15b0 : decide (0 < (x6_2.length : Int)) = true := dT c15
            have c15b1 : decide (0 < x6_2.length) = true := dT (by omega)
            clear c15
            by_cases c16 : x3_1.length < 5864062014805
            ·rw [if_pos c16] at H
             have LMc16 := A0_ c16; clear c16
             obtain ⟨y287, hy287⟩ : ∃ y_ : List (List Int), y_ = (x3_1 ++ [x6_2]) := ⟨_, rfl⟩
             replace H : (impl_cyclesOf.l0 k2 l0 y287 x4_2 (l0.length : Int) (wrap64 (x14_1 + 1))) = some r := zH hy287 H
             have Ny287 := A0_ hy287; clear hy287; have H' := A0_ H; clear H; obtain ⟨Ao17, co17, eo17⟩ := rS HO_4.out; subst eo17
             have p286 : 0 ≤ (x7_2 : Int) := zd
             have q286 : x7_2 < (x4_2.length : Int) := zd
             obtain ⟨ad286, e286, hx286_0⟩ := Kd.at_bool (rR HO_4.out).2.2 x7_2 p286 q286
             (try rw [← Nbq13.out] at hx286_0)
             cases e286
             replace p286 := eq_true p286; replace q286 := eq_true q286; obtain ⟨Ao18, co18, eo18⟩ := rS HO_6.out; subst eo18
             go_wp2_with (first | ((with_reducible refine gB (b := .append) (xs := #[.tmp 38, .tmp 40]) rfl ?_); at_builtin; refine Kd.S_append (Kd.slice 3 (Kd.int .i64)) (w0 := w) w.heap.size rfl (.tmp 38) (.tmp 40) 25 22 (.slice none 0 0) 24 rfl Try.underlying25 info22 rfl (by decide) (by omega) u3 x3_1 x6_2 [.slice Ao18 x6_2.length co18] (fun _ => True) (fun k_ => some k_ = (.slice Ao18 x6_2.length co18 : Value).ownBlock) rfl rfl ?aP (fun k_ hk_ => ((rM (ok' := fun k_ => ((fun _ => True)) k_ ∧ some k_ ≠ (u3 : Value).ownBlock) (Kd.R_apart' (HO_6.out) (Kd.S_typed HO_3.out) (by decide)) (fun k_ hk => ⟨trivial, hk.2⟩))).1 k_ hk_.symm) ?aF ?aO ?aB ?aS ?aL ?_; (case aP => exact Kd.M_row (rM (Kd.R_tight rfl (rM (ok' := fun k_ => ((fun _ => True)) k_ ∧ some k_ ≠ (u3 : Value).ownBlock) (Kd.R_apart' (HO_6.out) (Kd.S_typed HO_3.out) (by decide)) (fun k_ hk => ⟨trivial, hk.2⟩))) (fun _ h_ => h_))); (case aB => exact (zB_ HB)); (case aF => exact (fun _ _ => trivial)); (case aO => exact (zmS HO_3 (fun k_ hk => ⟨trivial, fun e_ => hk e_⟩))); (case aS => exact (bZ (zB_ HB))); (case aL => have := LMc16.out; omega); intro v288 w19 ho hb hg hat; rw [← Ny287.out] at ho; replace HO_4 := A0_ (Kd.R_over' (zR_ HO_4) (Kd.S_typed (zS_ HO_3)) (by decide) hg); replace HB := A0_ (hb); have HO289 := A0_ (ho); clear HO_3 HO_6 ho hb hg hat))
             go_roundg k2
             case measure => have := HK1.out; have := HK2.out; omega
             case rel => exact ⟨(y287), (x4_2), (wrap64 (x14_1 + 1)), zt, H', ⟨by have := HK1.out; have := HK2.out; omega⟩, ⟨zS_ HO289⟩, ⟨zR_ HO_4⟩, ⟨zB_ HB⟩⟩
            rw [if_neg c16] at H
            exact absurd H (by simp)
           rw [if_neg c15] at H
           have c15b0 : decide (0 < (x6_2.length : Int)) = false := dF c15
           have c15b1 : decide (0 < x6_2.length) = false := dF (by omega)
           clear c15; have H' := A0_ H; clear H; obtain ⟨Ao20, co20, eo20⟩ := rS HO_4.out; subst eo20
           have p286 : 0 ≤ (x7_2 : Int) := zd
           have q286 : x7_2 < (x4_2.length : Int) := zd
           obtain ⟨ad286, e286, hx286_0⟩ := Kd.at_bool (rR HO_4.out).2.2 x7_2 p286 q286
           (try rw [← Nbq13.out] at hx286_0)
           cases e286
           replace p286 := eq_true p286; replace q286 := eq_true q286; obtain ⟨Ao21, co21, eo21⟩ := rS HO_6.out; subst eo21
           go_wp2
           go_roundg k2
           case measure => have := HK1.out; have := HK2.out; omega
           case rel => exact ⟨(x3_1), (x4_2), (wrap64 (x14_1 + 1)), zt, H', ⟨by have := HK1.out; have := HK2.out; omega⟩, ⟨zmS HO_3 (fun _ hk => trivial)⟩, ⟨zR_ HO_4⟩, ⟨zB_ HB⟩⟩
          replace c14 := Bool.eq_false_iff.mpr c14; subst c14
          rw [if_neg (show ¬ (false = true) by decide)] at H
          obtain ⟨y290, hy290⟩ : ∃ y_ : List Bool, y_ = (x4_2.set (x7_2 : Int).toNat true) := ⟨_, rfl⟩
          replace H : (if x6_2.length < 17592186044416 then (if x7_2 < (l0.length : Int) then (impl_cyclesOf.l1 k2 l0 x3_1 y290 (x6_2 ++ [x7_2]) (rd l0 x7_2) (l0.length : Int) x14_1) else (none)) else (none)) = some r := zH hy290 H
          have Ny290 := A0_ hy290; clear hy290
          by_cases c23 : x6_2.length < 17592186044416
          ·rw [if_pos c23] at H
           have LMc23 := A0_ c23; clear c23
           obtain ⟨y291, hy291⟩ : ∃ y_ : List Int, y_ = (x6_2 ++ [x7_2]) := ⟨_, rfl⟩
           replace H : (if x7_2 < (l0.length : Int) then (impl_cyclesOf.l1 k2 l0 x3_1 y290 y291 (rd l0 x7_2) (l0.length : Int) x14_1) else (none)) = some r := zH hy291 H
           have Ny291 := A0_ hy291; clear hy291
           by_cases c24 : x7_2 < (l0.length : Int)
           ·rw [if_pos c24] at H
            have c24b0 := dT c24; clear c24; have H' := A0_ H; clear H; obtain ⟨Ao25, co25, eo25⟩ := rS HO_4.out; subst eo25
            have p286 : 0 ≤ (x7_2 : Int) := zd
            have q286 : x7_2 < (x4_2.length : Int) := zd
            obtain ⟨ad286, e286, hx286_0⟩ := Kd.at_bool (rR HO_4.out).2.2 x7_2 p286 q286
            (try rw [← Nbq13.out] at hx286_0)
            cases e286
            replace p286 := eq_true p286; replace q286 := eq_true q286
            have p22 : 0 ≤ (x7_2 : Int) := zd
            have q22 : (x7_2 : Int) < ((x4_2.length : Int) : Int) := zd
            obtain ⟨go22, co22, eo22, gb22, gl22, cl22, HG22⟩ := Kd.R_form HO_4.out (by omega)
            (first | cases eo22 | (injection eo22 with ea_ en_ ec_; (first | subst ea_ | (injection ea_ with ea_; subst ea_)); subst ec_; clear en_))
            have GB22 := A0_ gb22; have GG22 := A0_ HG22; clear gb22 gl22 HG22
            (first | simp only [add_plain] at hx286_0 | skip)
            obtain ⟨hx22_0, hf22_0⟩ := Kd.R_celln false HO_4.out (x7_2 : Int) p22 q22
            replace p22 := eq_true p22; replace q22 := eq_true q22
            have HP26 := Kd.R_putg HO_4.out (x7_2 : Int) true
            go_wp2_with (first | ((with_reducible refine gS (t := 4) (p := 30) rfl ?_); refine store_event (t := 4) (p := 30) (v := ?vo_w27) (w1 := (wr.setCell ⟨go22, (x7_2 : Int).toNat, none⟩ (.bool true))) ?hg ?ho ?hn ?hr ?_; (case ho => rfl); (case hg => rfl); (case hn => rfl); (case hr => first | (go_simp; done) | (go_simp; rfl)); intro w27 hw; have hg : wr.grownBy w27 (some go22) := (by rw [hw]; exact HP26.2); have hp_ : Kd.R Kd.bool 4 w27 w.heap.size (fun _ => True) (.slice (some ⟨go22, 0, none⟩) x4_2.length co25) y290 := (by rw [hw, Ny290.out]; exact HP26.1); clear HP26; replace HO_3 := A0_ (Kd.S_over' (v := (.slice (some ⟨go22, 0, none⟩) x4_2.length co25)) (zS_ HO_3) (Kd.R_typed HO_4.out) (by decide) hg); replace HO_6 := A0_ (Kd.R_over' (v := (.slice (some ⟨go22, 0, none⟩) x4_2.length co25)) (zR_ HO_6) (Kd.R_typed HO_4.out) (by decide) hg); replace HO_4 := A0_ (hp_); replace HB := A0_ ((by rw [hw]; exact bS (HB.out) GB22.out : Below w.heap.size w w27)); clear hg hw hp_) | ((with_reducible refine gB (b := .append) (xs := #[.tmp 31, .tmp 33]) rfl ?_); at_builtin; refine Kd.R_append (Kd.int .i64) (w0 := w) w.heap.size rfl (.tmp 31) (.tmp 33) 22 3 (.int .i64 0) 8 rfl Try.underlying22 info3 rfl (by decide) (by omega) u6 x6_2 x7_2 [.int .i64 x7_2] (fun _ => True) (fun _ => False) rfl rfl ?aP (fun _ hk => hk.elim) ?aF ?aO ?aB ?aS ?aL ?_; (case aP => exact rfl); (case aB => exact (zB_ HB)); (case aF => exact (fun _ _ => trivial)); (case aO => exact (zR_ HO_6)); (case aS => exact (bZ (zB_ HB))); (case aL => have := LMc23.out; omega); intro v292 w28 ho hb hg hat; rw [← Ny291.out] at ho; replace HO_3 := A0_ (Kd.S_after (ok := (fun _ => True)) (zmS HO_3 (fun _ hk => ⟨trivial, hk⟩)) hg hat); replace HO_4 := A0_ (Kd.R_over' (zR_ HO_4) (Kd.R_typed (zR_ HO_6)) (by decide) hg); replace HB := A0_ (hb); have HO293 := A0_ (ho); clear HO_6 ho hb hg hat; have p294 : 0 ≤ (x7_2 : Int) := zd; have q294 : x7_2 < (l0.length : Int) := zd; obtain ⟨ad294, e294, hx294_0⟩ := tI HR0.out x7_2 p294 q294; cases e294; try replace hx294_0 := (HB.out.cell (wL w _ hx294_0)).trans hx294_0; replace p294 := eq_true p294; replace q294 := eq_true q294))
            go_roundg k2
            case measure => have := HK1.out; have := HK2.out; omega
            case rel => exact ⟨(y290), (y291), (rd l0 x7_2), zt, H', ⟨by have := HK1.out; have := HK2.out; omega⟩, ⟨zmS HO_3 (fun _ hk => hk.2)⟩, ⟨zR_ HO_4⟩, ⟨zR_ HO293⟩, ⟨zB_ HB⟩⟩
           rw [if_neg c24] at H
           exact absurd H (by simp)
          rw [if_neg c23] at H
          exact absurd H (by simp)
         rw [if_neg c12] at H
         exact absurd H (by simp)
        rw [if_neg c11] at H
        exact absurd H (by simp)
     rw [if_neg c8] at H; have c8b0 := dF c8; clear c8; obtain rfl := sI H
     go_wp2
     go_ret
     exact ⟨_, by first | rfl | (simp [*] <;> rfl), zS_ HO_3, zB_ HB⟩
  rw [if_neg c3] at H
  exact absurd H (by simp)
 rw [if_neg c2] at H
 exact absurd H (by simp)

/-! ### impl_winding: function 76 -/
def impl_winding.l0 : Nat → List (List Int) → List Int → List Int → Int → Int → List Int → List Int → Option (List Int)
  | 0, _, _, _, _, _, _, _ => none
  | k + 1, x2, x9, x14, x15, x16, x296000, x296001 => if x16 < x15 then (if 0 ≤ x16 then (if x16 < (x14.length : Int) then ((impl_along.f k x296000 x296001 x2 (rd x14 x16)).bind fun t300 => ((impl_mul.f k x9 t300).bind fun t303 => (impl_winding.l0 k x2 t303 x14 x15 (wrap64 (x16 + 1)) x296000 x296001))) else (none)) else (none)) else (some x9)
def impl_winding.f (k : Nat) (l0_0 : List Int) (l0_1 : List Int) (a1 : Int) (l2 : List (List Int)) (l3 : List Int) : Option (List Int) := (impl_still.f k a1).bind fun t296 => (impl_winding.l0 k l2 t296 l3 (l3.length : Int) 0 l0_0 l0_1)
set_option maxHeartbeats 8000000 in
set_option maxRecDepth 100000 in
theorem impl_winding.calls (k : Nat) (A0_0 : Option Addr) (c0_0 : Nat) (l0_0 : List Int) (A0_1 : Option Addr) (c0_1 : Nat) (l0_1 : List Int) (a1 : Int) (A2 : Option Addr) (c2 : Nat) (l2 : List (List Int)) (A3 : Option Addr) (c3 : Nat) (l3 : List Int) (r : List Int) (w : World) (hr0_0 : Kd.C (Kd.int .i64) w A0_0 l0_0.length l0_0) (hc0_0 : l0_0.length ≤ c0_0) (hr0_1 : Kd.C (Kd.int .i64) w A0_1 l0_1.length l0_1) (hc0_1 : l0_1.length ≤ c0_1) (hr2 : Kd.C (Kd.slice 3 (Kd.int .i64)) w A2 l2.length l2) (hc2 : l2.length ≤ c2) (hr3 : Kd.C (Kd.int .i64) w A3 l3.length l3) (hc3 : l3.length ≤ c3) (h : impl_winding.f k l0_0 l0_1 a1 l2 l3 = some r) :
    Calls Try.prog 76 #[.agg #[.slice A0_0 l0_0.length c0_0, .slice A0_1 l0_1.length c0_1], .int .i64 a1, .slice A2 l2.length c2, .slice A3 l3.length c3] w fun e w' => ∃ v0_ : Value, e = .returned (v0_) ∧ Kd.R (Kd.int .i64) 3 w' w.heap.size (fun _ => True) v0_ r ∧ Below w.heap.size w w' := by
 have hu29 := Try.underlying29; have HR0_0 := A0_ hr0_0; have HC0_0 := A0_ hc0_0; clear hr0_0 hc0_0; have HR0_1 := A0_ hr0_1; have HC0_1 := A0_ hc0_1; clear hr0_1 hc0_1; have HR2 := A0_ hr2; have HC2 := A0_ hc2; clear hr2 hc2; have HR3 := A0_ hr3; have HC3 := A0_ hc3; clear hr3 hc3
 have HB := A0_ (Below.refl w.heap.size w)
 have H : ((impl_still.f k a1).bind fun t296 => (impl_winding.l0 k l2 t296 l3 (l3.length : Int) 0 l0_0 l0_1)) = some r := h
 clear h; obtain ⟨t296, A5, H⟩ := zbind H; have H' := A0_ H; clear H
 go_enter Try.func76, Try.ntmps76
 go_wp2_with (first | ((with_reducible refine gD (N := 4) rfl ?_); refine zX (N := 4) (cs := #[.slice A0_0 l0_0.length c0_0, .slice A0_1 l0_1.length c0_1]) (t := 29) ?_; intro gb295 hg w6 hbox hb; have BK295 := A0_ (hbox); have GW295 := zG hg HB; have GE295 := zG hg HB; replace HB := zB HB hb; clear hb hbox hg) | ((with_reducible refine gC (f := 62) rfl ?_); refine zJ (some 13) Try.func62 #[.int .i64 a1] ?_; (with_reducible refine (impl_still.calls k a1 t296 _ A5.out).mono ?_); rintro e w7 ⟨v297, rfl, ho0, hb⟩; refine ⟨_, rfl, ?_⟩; have HO298 := A0_ (rL ho0 (bZ (zB_ HB))); replace BK295 := zK BK295 hb; replace HB := zB HB hb; (try clear hb); (try clear ho0)))
 go_loopg [9, 16] k (fun kq v9 v16 w' => ∃ (x9_1 : List Int) (x16_1 : Int), v16 = .int .i64 x16_1 ∧ Aside0 (impl_winding.l0 kq l2 x9_1 l3 (l3.length : Int) x16_1 l0_0 l0_1 = some r) ∧ Aside0 (kq ≤ k) ∧ Aside0 (Kd.R (Kd.int .i64) 3 w' w.heap.size (fun _ => True) v9 x9_1) ∧ Aside0 (w'.heap[gb295]? = some (.cells #[(.slice A0_0 l0_0.length c0_0), (.slice A0_1 l0_1.length c0_1)] 29 (0, 0))) ∧ Aside0 (Below w.heap.size w w'))
 case atStart => exact ⟨(t296), (0), zt, H', ⟨Nat.le_refl _⟩, ⟨zR_ HO298⟩, ⟨zK_ BK295⟩, ⟨zB_ HB⟩⟩
 case round =>
  clear H'; (try clear c2); (try clear p2); (try clear c3); (try clear c6); (try clear c7); obtain ⟨x9_1, x16_1, rfl, HA, HK1, HO_9, BK295, HB⟩ := hrel
  cases gk with
  | zero => exact absurd HA.out (by simp [impl_winding.l0])
  | succ k1 =>
   have H := HA.out; clear HA; simp only [impl_winding.l0] at H
   by_cases c8 : x16_1 < (l3.length : Int)
   ·rw [if_pos c8] at H
    have c8b0 := dT c8; clear c8
    by_cases c9 : 0 ≤ x16_1
    ·rw [if_pos c9] at H
     have c9b0 := dT c9; clear c9
     by_cases c10 : x16_1 < (l3.length : Int)
     ·rw [if_pos c10] at H
      have c10b0 := dT c10; clear c10; obtain ⟨t300, A11, H⟩ := zbind H; obtain ⟨t303, A12, H⟩ := zbind H; have H' := A0_ H; clear H
      have p299 : 0 ≤ (x16_1 : Int) := zd
      have q299 : x16_1 < (l3.length : Int) := zd
      obtain ⟨ad299, e299, hx299_0⟩ := tI HR3.out x16_1 p299 q299
      cases e299
      try replace hx299_0 := (HB.out.cell (wL w _ hx299_0)).trans hx299_0
      replace p299 := eq_true p299; replace q299 := eq_true q299; have hcz13_0 := zc0 BK295; have hcz13_1 := zc1 BK295; have hfz13_0 := kF BK295.out 0; have hfz13_1 := kF BK295.out 1
      go_wp2_with (first | ((with_reducible refine gC (f := 91) rfl ?_); refine zJ (some 24) Try.func91 #[.agg #[.slice A0_0 l0_0.length c0_0, .slice A0_1 l0_1.length c0_1], .slice A2 l2.length c2, .int .i64 (rd l3 x16_1)] ?_; (with_reducible refine (impl_along.calls k1 _ _ l0_0 _ _ l0_1 (fun k_ => k_ < w.heap.size) _ _ l2 (rd l3 x16_1) t300 _ ?side1 ?side2 ?side3 ?side4 ?side5 A11.out).mono ?_); (case side1 => exact zC HR0_0 HB); (case side2 => exact HC0_0.out); (case side3 => exact zC HR0_1 HB); (case side4 => exact HC0_1.out); (case side5 => exact Kd.V_mk HC2.out (Kd.F_below (Kd.C_F (Kd.heap_slice 3 (Kd.heap_int .i64)) HR2.out) (zB_ HB))); rintro e w14 ⟨v301, rfl, ho0, hb⟩; refine ⟨_, rfl, ?_⟩; have HO302 := A0_ (Kd.V_lower (Kd.V_mono (ok' := fun k_ => some k_ ≠ (u9 : Value).ownBlock ∧ k_ ≠ gb295) ho0 (fun k_ hk_ => ⟨Or.elim hk_ (fun hs_ => fun e_ => Nat.not_le.2 hs_ (Kd.R_base HO_9.out k_ e_.symm)) (fun hn_ => (Kd.fresh' (rX (zR_ HO_9)) k_ hn_)), Or.elim hk_ (fun hs_ => fun e_ => Nat.not_le.2 hs_ (by rw [e_]; exact GW295.out)) (fun hn_ => (Kd.freshB (g := gb295) (o := .cells #[.slice A0_0 l0_0.length c0_0, .slice A0_1 l0_1.length c0_1] 29 (0, 0)) (zK_ BK295) k_ hn_))⟩)) (bZ (zB_ HB))); replace HO_9 := zR HO_9 hb; replace BK295 := zK BK295 hb; replace HB := zB HB hb; (try clear hb); (try clear ho0); obtain ⟨Ao15, co15, eo15⟩ := rS HO_9.out; subst eo15; obtain ⟨Ao16, co16, eo16⟩ := Kd.V_slice HO302.out; subst eo16) | ((with_reducible refine gC (f := 71) rfl ?_); refine zJ (some 25) Try.func71 #[.slice Ao15 x9_1.length co15, .slice Ao16 t300.length co16] ?_; (with_reducible refine (impl_mul.calls k1 _ _ x9_1 _ _ t300 t303 _ ?side1 ?side2 ?side3 ?side4 A12.out).mono ?_); (case side1 => exact zD HO_9); (case side2 => exact (rR HO_9.out).2.1); (case side3 => repeat (first | exact (Kd.V_reads' HO302.out).2.2 | (with_reducible refine cA ?_ _) | (with_reducible refine cN ?_ _) | (with_reducible refine cD ?_))); (case side4 => exact (Kd.V_reads' HO302.out).2.1); rintro e w17 ⟨v304, rfl, ho0, hb⟩; refine ⟨_, rfl, ?_⟩; replace HO302 := A0_ (Kd.V_elder' (by (with_reducible repeat (first | apply Kd.V_alloc | apply Kd.V_drewN | apply Kd.V_drew)); exact HO302.out) (Kd.R_base ho0) hb); have HO305 := A0_ (rL (Kd.R_new' ho0 (rX (zR_ HO_9))) (bZ (zB_ HB))); replace HO_9 := A0_ (Kd.R_elder' (zR_ HO_9) (Kd.R_base ho0) hb); replace BK295 := zK BK295 hb; replace HB := zB HB hb; (try clear hb); (try clear ho0)))
      go_roundg k1
      case measure => have := HK1.out; omega
      case rel => exact ⟨(t303), (wrap64 (x16_1 + 1)), zt, H', ⟨by have := HK1.out; omega⟩, ⟨zmR HO305 (fun _ hk => trivial)⟩, ⟨zK_ BK295⟩, ⟨zB_ HB⟩⟩
     rw [if_neg c10] at H
     exact absurd H (by simp)
    rw [if_neg c9] at H
    exact absurd H (by simp)
   rw [if_neg c8] at H; have c8b0 := dF c8; clear c8; obtain rfl := sI H
   go_wp2
   go_ret
   exact ⟨_, by first | rfl | (simp [*] <;> rfl), zR_ HO_9, zB_ HB⟩

/-! ### impl_CoverWinding: function 44 -/
mutual
def impl_CoverWinding.j0 : Nat → Int → List (List Int) → Int → Bool → List Int → List Int → Option (List Int × Bool)
  | 0, _, _, _, _, _, _ => none
  | k + 1, x1, x2, x3, x29, x307000, x307001 => if x29 = true then (some (([] : List Int), false)) else ((impl_mul.f k x307001 x307000).bind fun t308 => ((impl_cyclesOf.f k t308).bind fun t311 => (impl_CoverWinding.l0 k x1 x2 x3 t311 (t311.length : Int) 0 x307000 x307001)))
def impl_CoverWinding.l0 : Nat → Int → List (List Int) → Int → List (List Int) → Int → Int → List Int → List Int → Option (List Int × Bool)
  | 0, _, _, _, _, _, _, _, _ => none
  | k + 1, x1, x2, x3, x35, x36, x37, x307000, x307001 => if x37 < x36 then (if 0 ≤ x37 then (if x37 < (x35.length : Int) then (impl_CoverWinding.l1 k x1 x2 x3 (rd_L1 x35 x37) x35 x36 x37 (rd_L1 x35 x37) ((rd_L1 x35 x37).length : Int) 0 x307000 x307001) else (none)) else (none)) else (some (([] : List Int), false))
def impl_CoverWinding.l1 : Nat → Int → List (List Int) → Int → List Int → List (List Int) → Int → Int → List Int → Int → Int → List Int → List Int → Option (List Int × Bool)
  | 0, _, _, _, _, _, _, _, _, _, _, _, _ => none
  | k + 1, x1, x2, x3, x11, x35, x36, x37, x41, x42, x43, x307000, x307001 => if x43 < x42 then (if 0 ≤ x43 then (if x43 < (x41.length : Int) then (if (rd x41 x43) = x3 then ((impl_winding.f k x307000 x307001 x1 x2 x11).bind fun t316 => (some (t316, true))) else (impl_CoverWinding.l1 k x1 x2 x3 x11 x35 x36 x37 x41 x42 (wrap64 (x43 + 1)) x307000 x307001)) else (none)) else (none)) else (impl_CoverWinding.l0 k x1 x2 x3 x35 x36 (wrap64 (x37 + 1)) x307000 x307001)
end
def impl_CoverWinding.f (k : Nat) (l0_0 : List Int) (l0_1 : List Int) (a1 : Int) (l2 : List (List Int)) (a3 : Int) : Option (List Int × Bool) := (impl_VoltageValid.f k l0_0 l0_1 a1 l2).bind fun t307 => (if t307 = true then (if a3 < 0 then (impl_CoverWinding.j0 k a1 l2 a3 true l0_0 l0_1) else (impl_CoverWinding.j0 k a1 l2 a3 (decide (a3 ≥ (l0_0.length : Int))) l0_0 l0_1)) else (impl_CoverWinding.j0 k a1 l2 a3 true l0_0 l0_1))
set_option maxHeartbeats 8000000 in
set_option maxRecDepth 100000 in
theorem impl_CoverWinding.calls (k : Nat) (A0_0 : Option Addr) (c0_0 : Nat) (l0_0 : List Int) (A0_1 : Option Addr) (c0_1 : Nat) (l0_1 : List Int) (a1 : Int) (A2 : Option Addr) (c2 : Nat) (l2 : List (List Int)) (a3 : Int) (r1 : List Int) (r2 : Bool) (w : World) (hr0_0 : Kd.C (Kd.int .i64) w A0_0 l0_0.length l0_0) (hc0_0 : l0_0.length ≤ c0_0) (hr0_1 : Kd.C (Kd.int .i64) w A0_1 l0_1.length l0_1) (hc0_1 : l0_1.length ≤ c0_1) (hr2 : Kd.C (Kd.slice 3 (Kd.int .i64)) w A2 l2.length l2) (hc2 : l2.length ≤ c2) (h : impl_CoverWinding.f k l0_0 l0_1 a1 l2 a3 = some (r1, r2)) :
    Calls Try.prog 44 #[.agg #[.slice A0_0 l0_0.length c0_0, .slice A0_1 l0_1.length c0_1], .int .i64 a1, .slice A2 l2.length c2, .int .i64 a3] w fun e w' => ∃ v0_ : Value, e = .returned (.tuple #[v0_, .bool r2]) ∧ Kd.R (Kd.int .i64) 3 w' w.heap.size (fun _ => True) v0_ r1 ∧ Below w.heap.size w w' := by
 have hu29 := Try.underlying29; have HR0_0 := A0_ hr0_0; have HC0_0 := A0_ hc0_0; clear hr0_0 hc0_0; have HR0_1 := A0_ hr0_1; have HC0_1 := A0_ hc0_1; clear hr0_1 hc0_1; have HR2 := A0_ hr2; have HC2 := A0_ hc2; clear hr2 hc2
 have HB := A0_ (Below.refl w.heap.size w)
 have H : ((impl_VoltageValid.f k l0_0 l0_1 a1 l2).bind fun t307 => (if t307 = true then (if a3 < 0 then (impl_CoverWinding.j0 k a1 l2 a3 true l0_0 l0_1) else (impl_CoverWinding.j0 k a1 l2 a3 (decide (a3 ≥ (l0_0.length : Int))) l0_0 l0_1)) else (impl_CoverWinding.j0 k a1 l2 a3 true l0_0 l0_1))) = some (r1, r2) := h
 clear h; have HC5 := A0_ H; clear H
 go_enter Try.func44, Try.ntmps44
 go_upto_region 1 with (first | ((with_reducible refine gD (N := 4) rfl ?_); refine zX (N := 4) (cs := #[.slice A0_0 l0_0.length c0_0, .slice A0_1 l0_1.length c0_1]) (t := 29) ?_; intro gb306 hg w6 hbox hb; have BK306 := A0_ (hbox); have GW306 := zG hg HB; have GE306 := zG hg HB; replace HB := zB HB hb; clear hb hbox hg))
 (try simp only [Act.put, List.setIfInBounds_toArray, List.set_cons_zero, List.set_cons_succ])
 go_cut [29] (fun v29 wc => ∃ (kq : Nat) (x29_4 : Bool), v29 = .bool x29_4 ∧ Aside0 (impl_CoverWinding.j0 kq a1 l2 a3 x29_4 l0_0 l0_1 = some (r1, r2)) ∧ Aside0 (kq ≤ k) ∧ Aside0 (wc.heap[gb306]? = some (.cells #[(.slice A0_0 l0_0.length c0_0), (.slice A0_1 l0_1.length c0_1)] 29 (0, 0))) ∧ Aside0 (Below w.heap.size w wc))
 case first =>
  have H := HC5.out; clear HC5; obtain ⟨t307, A7, H⟩ := zbind H
  by_cases c8 : t307 = true
  ·subst c8
   have H1 : (if a3 < 0 then (impl_CoverWinding.j0 k a1 l2 a3 true l0_0 l0_1) else (impl_CoverWinding.j0 k a1 l2 a3 (decide (a3 ≥ (l0_0.length : Int))) l0_0 l0_1)) = some (r1, r2) := by rw [if_pos rfl] at H; exact H
   clear H; have H := H1; clear H1
   by_cases c9 : a3 < 0
   ·rw [if_pos c9] at H
    have c9b0 := dT c9; clear c9
    (first | rw [c9b0] | (simp only [i64_w, i32_w]; rw [c9b0]) | skip)
    have H' := A0_ H; clear H; have hcz10_0 := zc0 BK306; have hcz10_1 := zc1 BK306; have hfz10_0 := kF BK306.out 0; have hfz10_1 := kF BK306.out 1
    go_wp2_with (first | ((with_reducible refine gC (f := 20) rfl ?_); refine zJ (some 17) Try.func20 #[.agg #[.slice A0_0 l0_0.length c0_0, .slice A0_1 l0_1.length c0_1], .int .i64 a1, .slice A2 l2.length c2] ?_; (with_reducible refine (impl_VoltageValid.calls k _ _ l0_0 _ _ l0_1 a1 _ _ l2 true _ ?side1 ?side2 ?side3 ?side4 ?side5 ?side6 A7.out).mono ?_); (case side1 => exact zC HR0_0 HB); (case side2 => exact HC0_0.out); (case side3 => exact zC HR0_1 HB); (case side4 => exact HC0_1.out); (case side5 => exact zC HR2 HB); (case side6 => exact HC2.out); rintro e w11 ⟨rfl, hb⟩; refine ⟨_, rfl, ?_⟩; replace BK306 := zK BK306 hb; replace HB := zB HB hb; (try clear hb)))
    go_meet
    case rel => exact ⟨_, (true), zt, H', zo, ⟨zK_ BK306⟩, ⟨zB_ HB⟩⟩
   rw [if_neg c9] at H; have c9b0 := dF c9; clear c9
   (first | rw [c9b0] | (simp only [i64_w, i32_w]; rw [c9b0]) | skip)
   have H' := A0_ H; clear H; have hcz12_0 := zc0 BK306; have hcz12_1 := zc1 BK306; have hfz12_0 := kF BK306.out 0; have hfz12_1 := kF BK306.out 1
   go_wp2_with (first | ((with_reducible refine gC (f := 20) rfl ?_); refine zJ (some 17) Try.func20 #[.agg #[.slice A0_0 l0_0.length c0_0, .slice A0_1 l0_1.length c0_1], .int .i64 a1, .slice A2 l2.length c2] ?_; (with_reducible refine (impl_VoltageValid.calls k _ _ l0_0 _ _ l0_1 a1 _ _ l2 true _ ?side1 ?side2 ?side3 ?side4 ?side5 ?side6 A7.out).mono ?_); (case side1 => exact zC HR0_0 HB); (case side2 => exact HC0_0.out); (case side3 => exact zC HR0_1 HB); (case side4 => exact HC0_1.out); (case side5 => exact zC HR2 HB); (case side6 => exact HC2.out); rintro e w13 ⟨rfl, hb⟩; refine ⟨_, rfl, ?_⟩; replace BK306 := zK BK306 hb; replace HB := zB HB hb; (try clear hb); have hcz14_0 := zc0 BK306; have hcz14_1 := zc1 BK306; have hfz14_0 := kF BK306.out 0; have hfz14_1 := kF BK306.out 1))
   go_meet
   case rel => exact ⟨_, (decide (a3 ≥ (l0_0.length : Int))), zt, H', zo, ⟨zK_ BK306⟩, ⟨zB_ HB⟩⟩
  replace c8 := Bool.eq_false_iff.mpr c8; subst c8
  have H1 : (impl_CoverWinding.j0 k a1 l2 a3 true l0_0 l0_1) = some (r1, r2) := by rw [if_neg (show ¬ (false = true) by decide)] at H; exact H
  clear H; have H := H1; clear H1; have H' := A0_ H; clear H; have hcz15_0 := zc0 BK306; have hcz15_1 := zc1 BK306; have hfz15_0 := kF BK306.out 0; have hfz15_1 := kF BK306.out 1
  go_wp2_with (first | ((with_reducible refine gC (f := 20) rfl ?_); refine zJ (some 17) Try.func20 #[.agg #[.slice A0_0 l0_0.length c0_0, .slice A0_1 l0_1.length c0_1], .int .i64 a1, .slice A2 l2.length c2] ?_; (with_reducible refine (impl_VoltageValid.calls k _ _ l0_0 _ _ l0_1 a1 _ _ l2 false _ ?side1 ?side2 ?side3 ?side4 ?side5 ?side6 A7.out).mono ?_); (case side1 => exact zC HR0_0 HB); (case side2 => exact HC0_0.out); (case side3 => exact zC HR0_1 HB); (case side4 => exact HC0_1.out); (case side5 => exact zC HR2 HB); (case side6 => exact HC2.out); rintro e w16 ⟨rfl, hb⟩; refine ⟨_, rfl, ?_⟩; replace BK306 := zK BK306 hb; replace HB := zB HB hb; (try clear hb)))
  go_meet
  case rel => exact ⟨_, (true), zt, H', zo, ⟨zK_ BK306⟩, ⟨zB_ HB⟩⟩
 case rest =>
  clear HC5; (try clear c2); (try clear p2); (try clear c4); (try clear c8); (try clear c9); (try clear c9b0); (try clear hcz10_0); (try clear hcz10_1); (try clear hcz12_0); (try clear hcz12_1); (try clear hcz14_0); (try clear hcz14_1); (try clear hcz15_0); (try clear hcz15_1); (try clear hfz10_0); (try clear hfz10_1); (try clear hfz12_0); (try clear hfz12_1); (try clear hfz14_0); (try clear hfz14_1); (try clear hfz15_0); (try clear hfz15_1); obtain ⟨kq, x29_4, rfl, HA, HJ4, BK306, HB⟩ := hcut
  cases kq with
  | zero => exact absurd HA.out (by simp [impl_CoverWinding.j0])
  | succ kj4 =>
   have H := HA.out; clear HA; simp only [impl_CoverWinding.j0] at H
   by_cases c17 : x29_4 = true
   ·subst c17
    have H1 : (some (([] : List Int), false)) = some (r1, r2) := by rw [if_pos rfl] at H; exact H
    clear H; have H := H1; clear H1; simp only [Option.some.injEq, Prod.mk.injEq] at H; obtain ⟨rfl, rfl⟩ := H
    go_wp2
    go_ret2
    exact ⟨_, by first | rfl | (simp [*] <;> rfl), by first | exact Kd.R_nil _ _ _ _ _ | exact Kd.N_nil _ _ _ _ _ | exact Kd.V_nil _ _ _ _ _ | exact Kd.Q_nil _ _ _ _ _ | exact Kd.S_nil _ _ _ _ _, zB_ HB⟩
   replace c17 := Bool.eq_false_iff.mpr c17; subst c17
   have H1 : ((impl_mul.f kj4 l0_1 l0_0).bind fun t308 => ((impl_cyclesOf.f kj4 t308).bind fun t311 => (impl_CoverWinding.l0 kj4 a1 l2 a3 t311 (t311.length : Int) 0 l0_0 l0_1))) = some (r1, r2) := by rw [if_neg (show ¬ (false = true) by decide)] at H; exact H
   clear H; have H := H1; clear H1; obtain ⟨t308, A18, H⟩ := zbind H; obtain ⟨t311, A19, H⟩ := zbind H; have H' := A0_ H; clear H; have hcz20_0 := zc0 BK306; have hcz20_1 := zc1 BK306; have hfz20_0 := kF BK306.out 0; have hfz20_1 := kF BK306.out 1
   go_wp2_with (first | ((with_reducible refine gC (f := 71) rfl ?_); refine zJ (some 34) Try.func71 #[.slice A0_1 l0_1.length c0_1, .slice A0_0 l0_0.length c0_0] ?_; (with_reducible refine (impl_mul.calls kj4 _ _ l0_1 _ _ l0_0 t308 _ ?side1 ?side2 ?side3 ?side4 A18.out).mono ?_); (case side1 => exact zC HR0_1 HB); (case side2 => exact HC0_1.out); (case side3 => exact zC HR0_0 HB); (case side4 => exact HC0_0.out); rintro e w21 ⟨v309, rfl, ho0, hb⟩; refine ⟨_, rfl, ?_⟩; have HO310 := A0_ (rL ho0 (bZ (zB_ HB))); replace BK306 := zK BK306 hb; replace HB := zB HB hb; (try clear hb); (try clear ho0); obtain ⟨Ao22, co22, eo22⟩ := rS HO310.out; subst eo22) | ((with_reducible refine gC (f := 75) rfl ?_); refine zJ (some 35) Try.func75 #[.slice Ao22 t308.length co22] ?_; (with_reducible refine (impl_cyclesOf.calls kj4 _ _ t308 t311 _ ?side1 ?side2 A19.out).mono ?_); (case side1 => exact zD HO310); (case side2 => exact (rR HO310.out).2.1); rintro e w23 ⟨v312, rfl, ho0, hb⟩; refine ⟨_, rfl, ?_⟩; have HO313 := A0_ (Kd.S_lower (Kd.S_new' ho0 (rX (zR_ HO310))) (bZ (zB_ HB))); replace HO310 := zR HO310 hb; replace BK306 := zK BK306 hb; replace HB := zB HB hb; (try clear hb); (try clear ho0); obtain ⟨Ao24, co24, eo24⟩ := Kd.S_slice HO313.out; subst eo24))
   go_loopg [37] kj4 (fun kq v37 w' => ∃ (x37_2 : Int), v37 = .int .i64 x37_2 ∧ Aside0 (impl_CoverWinding.l0 kq a1 l2 a3 t311 (t311.length : Int) x37_2 l0_0 l0_1 = some (r1, r2)) ∧ Aside0 (kq ≤ kj4) ∧ Aside0 (Kd.S (Kd.slice 3 (Kd.int .i64)) 22 w' w.heap.size (fun _ => True) (.slice Ao24 t311.length co24) t311) ∧ Aside0 (w'.heap[gb306]? = some (.cells #[(.slice A0_0 l0_0.length c0_0), (.slice A0_1 l0_1.length c0_1)] 29 (0, 0))) ∧ Aside0 (Below w.heap.size w w'))
   case atStart => exact ⟨(0), zt, H', ⟨Nat.le_refl _⟩, ⟨zmS HO313 (fun _ hk => trivial)⟩, ⟨zK_ BK306⟩, ⟨zB_ HB⟩⟩
   case round =>
    clear H'; (try clear c1); (try clear c2); (try clear p2); (try clear c4); (try clear c7); (try clear c8); (try clear c9); (try clear c9b0); (try clear c17); (try clear c20); (try clear hcz10_0); (try clear hcz10_1); (try clear hcz12_0); (try clear hcz12_1); (try clear hcz14_0); (try clear hcz14_1); (try clear hcz15_0); (try clear hcz15_1); (try clear hcz20_0); (try clear hcz20_1); (try clear hfz10_0); (try clear hfz10_1); (try clear hfz12_0); (try clear hfz12_1); (try clear hfz14_0); (try clear hfz14_1); (try clear hfz15_0); (try clear hfz15_1); (try clear hfz20_0); (try clear hfz20_1); (try clear p2); obtain ⟨x37_2, rfl, HA, HK2, HO_35, BK306, HB⟩ := hrel
    cases gk with
    | zero => exact absurd HA.out (by simp [impl_CoverWinding.l0])
    | succ k2 =>
     have H := HA.out; clear HA; simp only [impl_CoverWinding.l0] at H
     by_cases c25 : x37_2 < (t311.length : Int)
     ·rw [if_pos c25] at H
      have c25b0 := dT c25; clear c25
      by_cases c26 : 0 ≤ x37_2
      ·rw [if_pos c26] at H
       have c26b0 := dT c26; clear c26
       by_cases c27 : x37_2 < (t311.length : Int)
       ·rw [if_pos c27] at H
        have c27b0 := dT c27; clear c27; have H' := A0_ H; clear H
        have p314 : 0 ≤ (x37_2 : Int) := zd
        have q314 : x37_2 < (t311.length : Int) := zd
        obtain ⟨ad314, A314_0, c314_0, e314, hx314_0, hl314_0, hi314_0⟩ := at_L1 (Kd.S_reads' HO_35.out).2.2 x37_2 p314 q314
        cases e314
        obtain ⟨ce314, hce314, hMe314, hcc314⟩ := Kd.S_get HO_35.out [] x37_2 p314 (by first | exact q314 | exact zd | (have e_ := (Kd.S_reads' HO_35.out).1; omega))
        obtain ⟨ve314_0, rfl, ge314_0⟩ := hMe314; have hv314_0 := hcc314 0 _ rfl
        rw [Nat.add_zero, show ((Kd.slice 3 (Kd.int .i64))).sz = 1 from rfl, Nat.mul_one] at hv314_0
        replace hv314_0 := sI (hv314_0.symm.trans hx314_0)
        rw [hv314_0] at ge314_0
        have HL314_0 := A0_ (show Kd.R (Kd.int .i64) 3 _ _ _ _ (rd_L1 t311 x37_2) from ge314_0)
        clear hv314_0 ge314_0 hcc314 hce314; have HR314_0 := A0_ hi314_0; have HC314_0 := A0_ hl314_0; clear hi314_0 hl314_0; replace p314 := eq_true p314; replace q314 := eq_true q314
        go_wp2
        go_loopg [43] k2 (fun kq v43 w' => ∃ (x43_3 : Int), v43 = .int .i64 x43_3 ∧ Aside0 (impl_CoverWinding.l1 kq a1 l2 a3 (rd_L1 t311 x37_2) t311 (t311.length : Int) x37_2 (rd_L1 t311 x37_2) ((rd_L1 t311 x37_2).length : Int) x43_3 l0_0 l0_1 = some (r1, r2)) ∧ Aside0 (kq ≤ k2) ∧ Aside0 (Kd.S (Kd.slice 3 (Kd.int .i64)) 22 w' w.heap.size (fun _ => True) (.slice (some ad314) t311.length co24) t311) ∧ Aside0 (w'.heap[gb306]? = some (.cells #[(.slice A0_0 l0_0.length c0_0), (.slice A0_1 l0_1.length c0_1)] 29 (0, 0))) ∧ Aside0 (Kd.C (Kd.int .i64) w' A314_0 (rd_L1 t311 x37_2).length (rd_L1 t311 x37_2)) ∧ Aside0 (Below w.heap.size w w'))
        case atStart => exact ⟨(0), zt, H', ⟨Nat.le_refl _⟩, ⟨zS_ HO_35⟩, ⟨zK_ BK306⟩, ⟨by repeat (first | (with_reducible exact HR314_0.out) | (with_reducible refine cA ?_ _) | (with_reducible refine cN ?_ _) | (with_reducible refine cD ?_) | exact HR314_0.out)⟩, ⟨zB_ HB⟩⟩
        case round =>
         clear H'; (try clear c1); (try clear c2); (try clear p2); (try clear c3); (try clear p3); (try clear q3); (try clear hx3); (try clear c4); (try clear c7); (try clear c8); (try clear c9); (try clear c9b0); (try clear c17); (try clear c20); (try clear c25); (try clear c25b0); (try clear c26); (try clear c26b0); (try clear c27); (try clear c27b0); (try clear hcz10_0); (try clear hcz10_1); (try clear hcz12_0); (try clear hcz12_1); (try clear hcz14_0); (try clear hcz14_1); (try clear hcz15_0); (try clear hcz15_1); (try clear hcz20_0); (try clear hcz20_1); (try clear hfz10_0); (try clear hfz10_1); (try clear hfz12_0); (try clear hfz12_1); (try clear hfz14_0); (try clear hfz14_1); (try clear hfz15_0); (try clear hfz15_1); (try clear hfz20_0); (try clear hfz20_1); (try clear hx314_0); (try clear p2); (try clear p314); (try clear q314); obtain ⟨x43_3, rfl, HA, HK3, HO_35, BK306, HR314_0, HB⟩ := hrel
         cases gk with
         | zero => exact absurd HA.out (by simp [impl_CoverWinding.l1])
         | succ k3 =>
          have H := HA.out; clear HA; simp only [impl_CoverWinding.l1] at H
          by_cases c28 : x43_3 < ((rd_L1 t311 x37_2).length : Int)
          ·rw [if_pos c28] at H
           have c28b0 := dT c28; clear c28
           by_cases c29 : 0 ≤ x43_3
           ·rw [if_pos c29] at H
            have c29b0 := dT c29; clear c29
            by_cases c30 : x43_3 < ((rd_L1 t311 x37_2).length : Int)
            ·rw [if_pos c30] at H
             have c30b0 := dT c30; clear c30
             by_cases c31 : (rd (rd_L1 t311 x37_2) x43_3) = a3
             ·rw [if_pos c31] at H
              have c31b0 : ((rd (rd_L1 t311 x37_2) x43_3) == a3) = true := beq_iff_eq.mpr c31
              have c31b1 : ((rd (rd_L1 t311 x37_2) x43_3) != a3) = false := bne_eq_false_iff_eq.mpr c31
              clear c31; obtain ⟨t316, A32, H⟩ := zbind H; simp only [Option.some.injEq, Prod.mk.injEq] at H; obtain ⟨rfl, rfl⟩ := H
              have p315 : 0 ≤ (x43_3 : Int) := zd
              have q315 : x43_3 < ((rd_L1 t311 x37_2).length : Int) := zd
              obtain ⟨ad315, e315, hx315_0⟩ := tI HR314_0.out x43_3 p315 q315
              cases e315
              try replace hx315_0 := (HB.out.cell (wL w _ hx315_0)).trans hx315_0
              replace p315 := eq_true p315; replace q315 := eq_true q315; have hcz33_0 := zc0 BK306; have hcz33_1 := zc1 BK306; have hfz33_0 := kF BK306.out 0; have hfz33_1 := kF BK306.out 1
              go_wp2_with (first | ((with_reducible refine gC (f := 76) rfl ?_); refine zJ (some 54) Try.func76 #[.agg #[.slice A0_0 l0_0.length c0_0, .slice A0_1 l0_1.length c0_1], .int .i64 a1, .slice A2 l2.length c2, .slice (some ad315) (rd_L1 t311 x37_2).length c314_0] ?_; (with_reducible refine (impl_winding.calls k3 _ _ l0_0 _ _ l0_1 a1 _ _ l2 _ _ (rd_L1 t311 x37_2) t316 _ ?side1 ?side2 ?side3 ?side4 ?side5 ?side6 ?side7 ?side8 A32.out).mono ?_); (case side1 => exact zC HR0_0 HB); (case side2 => exact HC0_0.out); (case side3 => exact zC HR0_1 HB); (case side4 => exact HC0_1.out); (case side5 => exact zC HR2 HB); (case side6 => exact HC2.out); (case side7 => repeat (first | (with_reducible exact HR314_0.out) | exact (cB HR314_0.out HB.out) | (with_reducible refine cA ?_ _) | (with_reducible refine cN ?_ _) | (with_reducible refine cD ?_))); (case side8 => exact HC314_0.out); rintro e w34 ⟨v317, rfl, ho0, hb⟩; refine ⟨_, rfl, ?_⟩; replace HO_35 := A0_ (Kd.S_elder' (zS_ HO_35) (Kd.R_base ho0) hb); have HO318 := A0_ (rL ho0 (bZ (zB_ HB))); replace BK306 := zK BK306 hb; replace HR314_0 := A0_ (cB (by repeat (first | (with_reducible exact HR314_0.out) | (with_reducible refine cA ?_ _) | (with_reducible refine cN ?_ _) | (with_reducible refine cD ?_) | exact HR314_0.out)) hb); replace HB := zB HB hb; (try clear hb); (try clear ho0)))
              go_ret2
              exact ⟨_, by first | rfl | (simp [*] <;> rfl), zR_ HO318, zB_ HB⟩
             rw [if_neg c31] at H
             have c31b0 : ((rd (rd_L1 t311 x37_2) x43_3) == a3) = false := beq_eq_false_iff_ne.mpr c31
             have c31b1 : ((rd (rd_L1 t311 x37_2) x43_3) != a3) = true := bne_iff_ne.mpr c31
             have H' := A0_ H; clear H
             have p315 : 0 ≤ (x43_3 : Int) := zd
             have q315 : x43_3 < ((rd_L1 t311 x37_2).length : Int) := zd
             obtain ⟨ad315, e315, hx315_0⟩ := tI HR314_0.out x43_3 p315 q315
             cases e315
             try replace hx315_0 := (HB.out.cell (wL w _ hx315_0)).trans hx315_0
             replace p315 := eq_true p315; replace q315 := eq_true q315
             go_wp2
             go_roundg k3
             case measure => have := HJ4.out; have := HK2.out; have := HK3.out; omega
             case rel => exact ⟨(wrap64 (x43_3 + 1)), zt, H', ⟨by have := HJ4.out; have := HK2.out; have := HK3.out; omega⟩, ⟨zS_ HO_35⟩, ⟨zK_ BK306⟩, ⟨by repeat (first | (with_reducible exact HR314_0.out) | (with_reducible refine cA ?_ _) | (with_reducible refine cN ?_ _) | (with_reducible refine cD ?_) | exact HR314_0.out)⟩, ⟨zB_ HB⟩⟩
            rw [if_neg c30] at H
            exact absurd H (by simp)
           rw [if_neg c29] at H
           exact absurd H (by simp)
          rw [if_neg c28] at H; have c28b0 := dF c28; clear c28; have H' := A0_ H; clear H
          go_wp2
          go_roundg k3
          case measure => have := HJ4.out; have := HK2.out; have := HK3.out; omega
          case rel => exact ⟨(wrap64 (x37_2 + 1)), zt, H', ⟨by have := HJ4.out; have := HK2.out; have := HK3.out; omega⟩, ⟨zS_ HO_35⟩, ⟨zK_ BK306⟩, ⟨zB_ HB⟩⟩
       rw [if_neg c27] at H
       exact absurd H (by simp)
      rw [if_neg c26] at H
      exact absurd H (by simp)
     rw [if_neg c25] at H; have c25b0 := dF c25; clear c25; simp only [Option.some.injEq, Prod.mk.injEq] at H; obtain ⟨rfl, rfl⟩ := H
     go_wp2
     go_ret2
     exact ⟨_, by first | rfl | (simp [*] <;> rfl), by first | exact Kd.R_nil _ _ _ _ _ | exact Kd.N_nil _ _ _ _ _ | exact Kd.V_nil _ _ _ _ _ | exact Kd.Q_nil _ _ _ _ _ | exact Kd.S_nil _ _ _ _ _, zB_ HB⟩

end Go.Proofs.Ytmcgkckdnelcdaa.PFnTrivial
