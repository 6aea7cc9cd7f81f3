-- Made by a program of this session (wip/tools) out of the loaded program; not trusted: Lean checks it.
import Derived.Test.YtjebcgbmlbemcaaGreatDoorPFnExecuteTuttex0
import Derived.Test.YtjebcgbmlbemcaaGreatDoorPFnExecuteTuttex2
-- packed
namespace Go.Proofs.YtjebcgbmlbemcaaGreatDoor.PFnExecuteTutte
open Go.RowKit Go.Proofs.YtjebcgbmlbemcaaGreatDoorW.PrintWords Go.Proofs.YtjebcgbmlbemcaaGreatDoorW.PrintLast Go.Proofs.YtjebcgbmlbemcaaGreatDoorW.PrintMore
attribute [local go_sem] max2_int min2_int max_two min_two max_three min_three max_four min_four   -- for this text's walks alone
set_option linter.unusedVariables false
set_option linter.unusedSimpArgs false

/-! ### spec_l1Back: function 28 -/
def spec_l1Back.l0 : Nat → List Int → List Int → Int → Option (List Int)
  | 0, _, _, _ => none
  | k + 1, x0, x3, x4 => if x4 < (x0.length : Int) then (if 0 ≤ x4 then (if 0 ≤ (rd x0 x4) then (if (rd x0 x4) < (x3.length : Int) then (spec_l1Back.l0 k x0 (x3.set ((rd x0 x4) : Int).toNat x4) (wrap64 (x4 + 1))) else (none)) else (none)) else (none)) else (some x3)
def spec_l1Back.f (k : Nat) (l0 : List Int) : Option (List Int) := if 0 ≤ (l0.length : Int) then (if ((l0.length : Int) : Int).toNat ≤ 35184372088832 then (spec_l1Back.l0 k l0 (List.replicate ((l0.length : Int) : Int).toNat 0) 0) else (none)) else (none)
set_option maxHeartbeats 8000000 in
set_option maxRecDepth 100000 in
theorem spec_l1Back.calls (k : Nat) (A0 : Option Addr) (c0 : Nat) (l0 : List Int) (r : List Int) (w : World) (hr0 : Kd.C (Kd.int .i64) w A0 l0.length l0) (hc0 : l0.length ≤ c0) (h : spec_l1Back.f k l0 = some r) :
    Calls Tryz.prog 28 #[.slice A0 l0.length c0] w fun e w' => ∃ v0_ : Value, e = .returned (v0_) ∧ Kd.R (Kd.int .i64) 3 w' w.heap.size (fun _ => True) v0_ r ∧ Below w.heap.size w w' := by
 have HR0 := A0_ hr0; have HC0 := A0_ hc0; clear hr0 hc0
 have HB := A0_ (Below.refl w.heap.size w)
 have H : (if 0 ≤ (l0.length : Int) then (if ((l0.length : Int) : Int).toNat ≤ 35184372088832 then (spec_l1Back.l0 k l0 (List.replicate ((l0.length : Int) : Int).toNat 0) 0) else (none)) else (none)) = some r := h
 clear h
 by_cases c2 : 0 ≤ (l0.length : Int)
 ·rw [if_pos c2] at H
  have c2b0 := eq_true c2; have c2b1 := dT c2; clear c2
  by_cases c3 : ((l0.length : Int) : Int).toNat ≤ 35184372088832
  ·rw [if_pos c3] at H
   have c3b0 := eq_true c3; have c3b1 := dT c3; clear c3
   obtain ⟨y275, hy275⟩ : ∃ y_ : List Int, y_ = (List.replicate ((l0.length : Int) : Int).toNat 0) := ⟨_, rfl⟩
   replace H : (spec_l1Back.l0 k l0 y275 0) = some r := zH hy275 H
   have Ny275 := A0_ hy275; clear hy275; have H' := A0_ H; clear H
   go_enter Tryz.func28, Tryz.ntmps28
   go_wp2_with (first | ((with_reducible refine gD (N := 7) rfl ?_); refine Kd.R_make (Kd.int .i64) _ 3 rfl (N := 7) rfl 23 _ _ rfl (l0.length : Int) rfl rfl Tryz.underlying23 (.int .i64 0) 8 info3 rfl (by decide) (by omega) 0 (ok := fun _ => True) (okp := fun _ => True) rfl (fun _ hk => hk) trivial (zd) (Nat.le_trans (Nat.mul_le_mul_right _ (zd : (l0.length : Int).toNat ≤ 35184372088832)) (by omega)) (Below.refl _ _) (Nat.le_refl _) ?_; intro v276 w4 ho5 hb hg_ hnew_; clear hg_ hnew_; (first | rw [← Ny275.out] at ho5 | (simp only [Int.reduceToNat] at ho5; rw [← Ny275.out] at ho5)); have HO277 := A0_ (rL ho5 (bZ (zB_ HB))); replace HB := zB HB hb; clear hb ho5))
   go_loopg [4] k (fun kq v4 w' => ∃ (x3_1 : List Int) (x4_1 : Int), v4 = .int .i64 x4_1 ∧ Aside0 (spec_l1Back.l0 kq l0 x3_1 x4_1 = some r) ∧ Aside0 (kq ≤ k) ∧ Aside0 (Kd.R (Kd.int .i64) 3 w' w.heap.size (fun _ => True) v276 x3_1) ∧ Aside0 (Below w.heap.size w w'))
   case atStart => exact ⟨(y275), (0), zt, H', ⟨Nat.le_refl _⟩, ⟨zR_ HO277⟩, ⟨zB_ HB⟩⟩
   case round =>
    clear H'; (try clear c2); (try clear c2b0); (try clear c2b1); (try clear p2); (try clear c3); (try clear c3b0); (try clear c3b1); obtain ⟨x3_1, x4_1, rfl, HA, HK1, HO_3, HB⟩ := hrel
    cases gk with
    | zero => exact absurd HA.out (by simp [spec_l1Back.l0])
    | succ k1 =>
     have H := HA.out; clear HA; simp only [spec_l1Back.l0] at H
     by_cases c6 : x4_1 < (l0.length : Int)
     ·rw [if_pos c6] at H
      have c6b0 := dT c6; clear c6
      by_cases c7 : 0 ≤ x4_1
      ·rw [if_pos c7] at H
       have c7b0 := dT c7; clear c7
       by_cases c8 : 0 ≤ (rd l0 x4_1)
       ·rw [if_pos c8] at H
        have c8b0 := dT c8; clear c8
        by_cases c9 : (rd l0 x4_1) < (x3_1.length : Int)
        ·rw [if_pos c9] at H
         have c9b0 := dT c9; clear c9
         obtain ⟨y279, hy279⟩ : ∃ y_ : List Int, y_ = (x3_1.set ((rd l0 x4_1) : Int).toNat x4_1) := ⟨_, rfl⟩
         replace H : (spec_l1Back.l0 k1 l0 y279 (wrap64 (x4_1 + 1))) = some r := zH hy279 H
         have Ny279 := A0_ hy279; clear hy279; have H' := A0_ H; clear H
         have p278 : 0 ≤ (x4_1 : Int) := zd
         have q278 : x4_1 < (l0.length : Int) := zd
         obtain ⟨ad278, e278, hx278_0⟩ := tI HR0.out x4_1 p278 q278
         cases e278
         try replace hx278_0 := (HB.out.cell (wL w _ hx278_0)).trans hx278_0
         replace p278 := eq_true p278; replace q278 := eq_true q278
         have p10 : 0 ≤ ((rd l0 x4_1) : Int) := zd
         have q10 : ((rd l0 x4_1) : Int) < ((x3_1.length : Int) : Int) := zd
         obtain ⟨go10, co10, eo10, gb10, gl10, cl10, HG10⟩ := Kd.R_form HO_3.out (by omega)
         (first | cases eo10 | (injection eo10 with ea_ en_ ec_; (first | subst ea_ | (injection ea_ with ea_; subst ea_)); subst ec_; clear en_))
         have GB10 := A0_ gb10; have GG10 := A0_ HG10; clear gb10 gl10 HG10
         obtain ⟨hx10_0, hf10_0⟩ := Kd.R_celln 0 HO_3.out ((rd l0 x4_1) : Int) p10 q10
         replace p10 := eq_true p10; replace q10 := eq_true q10
         have HP11 := Kd.R_putg HO_3.out ((rd l0 x4_1) : Int) x4_1
         go_wp2_with (first | ((with_reducible refine gS (t := 3) (p := 20) rfl ?_); refine store_event (t := 3) (p := 20) (v := ?vo_w12) (w1 := (wr.setCell ⟨go10, ((rd l0 x4_1) : Int).toNat, none⟩ (.int .i64 x4_1))) ?hg ?ho ?hn ?hr ?_; (case ho => rfl); (case hg => rfl); (case hn => rfl); (case hr => first | (go_simp; done) | (go_simp; rfl)); intro w12 hw; have hg : wr.grownBy w12 (some go10) := (by rw [hw]; exact HP11.2); have hp_ : Kd.R (Kd.int .i64) 3 w12 w.heap.size (fun _ => True) (.slice (some ⟨go10, 0, none⟩) x3_1.length co10) y279 := (by rw [hw, Ny279.out]; exact HP11.1); clear HP11; replace HO_3 := A0_ (hp_); replace HB := A0_ ((by rw [hw]; exact bS (HB.out) GB10.out : Below w.heap.size w w12)); clear hg hw hp_))
         go_roundg k1
         case measure => have := HK1.out; omega
         case rel => exact ⟨(y279), (wrap64 (x4_1 + 1)), zt, H', ⟨by have := HK1.out; omega⟩, ⟨zR_ HO_3⟩, ⟨zB_ HB⟩⟩
        rw [if_neg c9] at H
        exact absurd H (by simp)
       rw [if_neg c8] at H
       exact absurd H (by simp)
      rw [if_neg c7] at H
      exact absurd H (by simp)
     rw [if_neg c6] at H; have c6b0 := dF c6; clear c6; obtain rfl := sI H
     go_wp2
     go_ret
     exact ⟨_, by first | rfl | (simp [*] <;> rfl), zR_ HO_3, zB_ HB⟩
  rw [if_neg c3] at H
  exact absurd H (by simp)
 rw [if_neg c2] at H
 exact absurd H (by simp)

/-! ### spec_l1Mul: function 62 -/
def spec_l1Mul.l0 : Nat → List Int → List Int → List Int → Int → Option (List Int)
  | 0, _, _, _, _ => none
  | k + 1, x0, x1, x5, x6 => if x6 < (x0.length : Int) then (if 0 ≤ x6 then (if 0 ≤ (rd x0 x6) then (if (rd x0 x6) < (x1.length : Int) then (if x5.length < 17592186044416 then (spec_l1Mul.l0 k x0 x1 (x5 ++ [rd x1 (rd x0 x6)]) (wrap64 (x6 + 1))) else (none)) else (none)) else (none)) else (none)) else (some x5)
def spec_l1Mul.f (k : Nat) (l0 : List Int) (l1 : List Int) : Option (List Int) := spec_l1Mul.l0 k l0 l1 (([] : List Int)) 0
set_option maxHeartbeats 8000000 in
set_option maxRecDepth 100000 in
theorem spec_l1Mul.calls (k : Nat) (A0 : Option Addr) (c0 : Nat) (l0 : List Int) (A1 : Option Addr) (c1 : Nat) (l1 : List Int) (r : List Int) (w : World) (hr0 : Kd.C (Kd.int .i64) w A0 l0.length l0) (hc0 : l0.length ≤ c0) (hr1 : Kd.C (Kd.int .i64) w A1 l1.length l1) (hc1 : l1.length ≤ c1) (h : spec_l1Mul.f k l0 l1 = some r) :
    Calls Tryz.prog 62 #[.slice A0 l0.length c0, .slice A1 l1.length c1] w fun e w' => ∃ v0_ : Value, e = .returned (v0_) ∧ Kd.R (Kd.int .i64) 3 w' w.heap.size (fun _ => True) v0_ r ∧ Below w.heap.size w w' := by
 have HR0 := A0_ hr0; have HC0 := A0_ hc0; clear hr0 hc0; have HR1 := A0_ hr1; have HC1 := A0_ hc1; clear hr1 hc1
 have HB := A0_ (Below.refl w.heap.size w)
 have H : (spec_l1Mul.l0 k l0 l1 (([] : List Int)) 0) = some r := h
 clear h
 obtain ⟨y280, hy280⟩ : ∃ y_ : List Int, y_ = (([] : List Int)) := ⟨_, rfl⟩
 replace H : (spec_l1Mul.l0 k l0 l1 y280 0) = some r := zH hy280 H
 have Ny280 := A0_ hy280; clear hy280; have H' := A0_ H; clear H
 go_enter Tryz.func62, Tryz.ntmps62
 go_wp2_with (first | ((with_reducible refine gD (N := 7) rfl ?_); refine Kd.R_lit (Kd.int .i64) _ 3 ?hg (N := 7) ?hd (xs := ([] : List Int)) (inner := []) (ok := fun _ => True) (okp := fun _ => True) ?hr ?hp (fun _ hk => hk) trivial (Below.refl _ _) (Nat.le_refl _) (by simp) ?_; (case hd => rfl); (case hg => rfl); (case hr => first | (go_simp; done) | (go_simp; rfl)); (case hp => exact (Reps.none _ _)); intro v281 w3 ho4 hb hg_ hnew_; clear hg_ hnew_; (first | rw [← Ny280.out] at ho4 | (simp only [Int.reduceToNat] at ho4; rw [← Ny280.out] at ho4)); have HO282 := A0_ (rL ho4 (bZ (zB_ HB))); replace HB := zB HB hb; clear hb ho4))
 go_loopg [5, 6] k (fun kq v5 v6 w' => ∃ (x5_1 : List Int) (x6_1 : Int), v6 = .int .i64 x6_1 ∧ Aside0 (spec_l1Mul.l0 kq l0 l1 x5_1 x6_1 = some r) ∧ Aside0 (kq ≤ k) ∧ Aside0 (Kd.R (Kd.int .i64) 3 w' w.heap.size (fun _ => True) v5 x5_1) ∧ Aside0 (Below w.heap.size w w'))
 case atStart => exact ⟨(y280), (0), zt, H', ⟨Nat.le_refl _⟩, ⟨zR_ HO282⟩, ⟨zB_ HB⟩⟩
 case round =>
  clear H'; (try clear c1); (try clear p2); obtain ⟨x5_1, x6_1, rfl, HA, HK1, HO_5, HB⟩ := hrel
  cases gk with
  | zero => exact absurd HA.out (by simp [spec_l1Mul.l0])
  | succ k1 =>
   have H := HA.out; clear HA; simp only [spec_l1Mul.l0] at H
   by_cases c5 : x6_1 < (l0.length : Int)
   ·rw [if_pos c5] at H
    have c5b0 := dT c5; clear c5
    by_cases c6 : 0 ≤ x6_1
    ·rw [if_pos c6] at H
     have c6b0 := dT c6; clear c6
     by_cases c7 : 0 ≤ (rd l0 x6_1)
     ·rw [if_pos c7] at H
      have c7b0 := dT c7; clear c7
      by_cases c8 : (rd l0 x6_1) < (l1.length : Int)
      ·rw [if_pos c8] at H
       have c8b0 := dT c8; clear c8
       by_cases c9 : x5_1.length < 17592186044416
       ·rw [if_pos c9] at H
        have LMc9 := A0_ c9; clear c9
        obtain ⟨y285, hy285⟩ : ∃ y_ : List Int, y_ = (x5_1 ++ [rd l1 (rd l0 x6_1)]) := ⟨_, rfl⟩
        replace H : (spec_l1Mul.l0 k1 l0 l1 y285 (wrap64 (x6_1 + 1))) = some r := zH hy285 H
        have Ny285 := A0_ hy285; clear hy285; have H' := A0_ H; clear H
        have p283 : 0 ≤ (x6_1 : Int) := zd
        have q283 : x6_1 < (l0.length : Int) := zd
        obtain ⟨ad283, e283, hx283_0⟩ := tI HR0.out x6_1 p283 q283
        cases e283
        try replace hx283_0 := (HB.out.cell (wL w _ hx283_0)).trans hx283_0
        replace p283 := eq_true p283; replace q283 := eq_true q283
        have p284 : 0 ≤ ((rd l0 x6_1) : Int) := zd
        have q284 : (rd l0 x6_1) < (l1.length : Int) := zd
        obtain ⟨ad284, e284, hx284_0⟩ := tI HR1.out (rd l0 x6_1) p284 q284
        cases e284
        try replace hx284_0 := (HB.out.cell (wL w _ hx284_0)).trans hx284_0
        replace p284 := eq_true p284; replace q284 := eq_true q284
        go_wp2_with (first | ((with_reducible refine gB (b := .append) (xs := #[.tmp 14, .tmp 22]) rfl ?_); at_builtin; refine Kd.R_append (Kd.int .i64) (w0 := w) w.heap.size rfl (.tmp 14) (.tmp 22) 23 3 (.int .i64 0) 8 rfl Tryz.underlying23 info3 rfl (by decide) (by omega) u5 x5_1 (rd l1 (rd l0 x6_1)) [.int .i64 (rd l1 (rd l0 x6_1))] (fun _ => True) (fun _ => False) rfl rfl ?aP (fun _ hk => hk.elim) ?aF ?aO ?aB ?aS ?aL ?_; (case aP => exact rfl); (case aB => exact (zB_ HB)); (case aF => exact (fun _ _ => trivial)); (case aO => exact (zR_ HO_5)); (case aS => exact (bZ (zB_ HB))); (case aL => have := LMc9.out; omega); intro v286 w10 ho hb hg hat; rw [← Ny285.out] at ho; replace HB := A0_ (hb); have HO287 := A0_ (ho); clear HO_5 ho hb hg hat))
        go_roundg k1
        case measure => have := HK1.out; omega
        case rel => exact ⟨(y285), (wrap64 (x6_1 + 1)), zt, H', ⟨by have := HK1.out; omega⟩, ⟨zR_ HO287⟩, ⟨zB_ HB⟩⟩
       rw [if_neg c9] at H
       exact absurd H (by simp)
      rw [if_neg c8] at H
      exact absurd H (by simp)
     rw [if_neg c7] at H
     exact absurd H (by simp)
    rw [if_neg c6] at H
    exact absurd H (by simp)
   rw [if_neg c5] at H; have c5b0 := dF c5; clear c5; obtain rfl := sI H
   go_wp2
   go_ret
   exact ⟨_, by first | rfl | (simp [*] <;> rfl), zR_ HO_5, zB_ HB⟩

/-! ### spec_l2Faces: function 29 -/
def spec_l2Faces.f (k : Nat) (l0_0 : List Int) (l0_1 : List Int) : Option (List Int) := (spec_l1Mul.f k l0_1 l0_0).bind fun t289 => (some t289)
set_option maxHeartbeats 8000000 in
set_option maxRecDepth 100000 in
theorem spec_l2Faces.calls (k : Nat) (A0_0 : Option Addr) (c0_0 : Nat) (l0_0 : List Int) (A0_1 : Option Addr) (c0_1 : Nat) (l0_1 : List Int) (r : List Int) (w : World) (hr0_0 : Kd.C (Kd.int .i64) w A0_0 l0_0.length l0_0) (hc0_0 : l0_0.length ≤ c0_0) (hr0_1 : Kd.C (Kd.int .i64) w A0_1 l0_1.length l0_1) (hc0_1 : l0_1.length ≤ c0_1) (h : spec_l2Faces.f k l0_0 l0_1 = some r) :
    Calls Tryz.prog 29 #[.agg #[.slice A0_0 l0_0.length c0_0, .slice A0_1 l0_1.length c0_1]] w fun e w' => ∃ v0_ : Value, e = .returned (v0_) ∧ Kd.R (Kd.int .i64) 3 w' w.heap.size (fun _ => True) v0_ r ∧ Below w.heap.size w w' := by
 have hu25 := Tryz.underlying25; have HR0_0 := A0_ hr0_0; have HC0_0 := A0_ hc0_0; clear hr0_0 hc0_0; have HR0_1 := A0_ hr0_1; have HC0_1 := A0_ hc0_1; clear hr0_1 hc0_1
 have HB := A0_ (Below.refl w.heap.size w)
 have H : ((spec_l1Mul.f k l0_1 l0_0).bind fun t289 => (some t289)) = some r := h
 clear h; obtain ⟨t289, A2, H⟩ := zbind H; obtain rfl := sI H
 go_enter Tryz.func29, Tryz.ntmps29
 go_wp2_with (first | ((with_reducible refine gD (N := 1) rfl ?_); refine zX (N := 1) (cs := #[.slice A0_0 l0_0.length c0_0, .slice A0_1 l0_1.length c0_1]) (t := 25) ?_; intro gb288 hg w3 hbox hb; have BK288 := A0_ (hbox); have GW288 := zG hg HB; have GE288 := zG hg HB; replace HB := zB HB hb; clear hb hbox hg; have hcz4_0 := zc0 BK288; have hcz4_1 := zc1 BK288; have hfz4_0 := kF BK288.out 0; have hfz4_1 := kF BK288.out 1) | ((with_reducible refine gC (f := 62) rfl ?_); refine zJ (some 7) Tryz.func62 #[.slice A0_1 l0_1.length c0_1, .slice A0_0 l0_0.length c0_0] ?_; (with_reducible refine (spec_l1Mul.calls k _ _ l0_1 _ _ l0_0 t289 _ ?side1 ?side2 ?side3 ?side4 A2.out).mono ?_); (case side1 => exact zC HR0_1 HB); (case side2 => exact HC0_1.out); (case side3 => exact zC HR0_0 HB); (case side4 => exact HC0_0.out); rintro e w5 ⟨v290, rfl, ho0, hb⟩; refine ⟨_, rfl, ?_⟩; have HO291 := A0_ (rL ho0 (bZ (zB_ HB))); replace BK288 := zK BK288 hb; replace HB := zB HB hb; (try clear hb); (try clear ho0)))
 go_ret
 exact ⟨_, by first | rfl | (simp [*] <;> rfl), zR_ HO291, zB_ HB⟩

/-! ### spec_l3Flip: function 30 -/
def spec_l3Flip.l0 : Nat → Int → List Int → Int → Option (List Int)
  | 0, _, _, _ => none
  | k + 1, x0, x3, x4 => if x4 < x0 then ((some (([wrap64 ((wrap64 (2 * x4)) + 1), wrap64 (2 * x4)] : List Int) : List Int)).bind fun y295 => (if x3.length + y295.length < 17592186044416 then (spec_l3Flip.l0 k x0 (x3 ++ y295) (wrap64 (x4 + 1))) else (none))) else (some x3)
def spec_l3Flip.f (k : Nat) (a0 : Int) : Option (List Int) := spec_l3Flip.l0 k a0 (([] : List Int)) 0
set_option maxHeartbeats 8000000 in
set_option maxRecDepth 100000 in
theorem spec_l3Flip.calls (k : Nat) (a0 : Int) (r : List Int) (w : World) (h : spec_l3Flip.f k a0 = some r) :
    Calls Tryz.prog 30 #[.int .i64 a0] w fun e w' => ∃ v0_ : Value, e = .returned (v0_) ∧ Kd.R (Kd.int .i64) 3 w' w.heap.size (fun _ => True) v0_ r ∧ Below w.heap.size w w' := by
 have HB := A0_ (Below.refl w.heap.size w)
 have H : (spec_l3Flip.l0 k a0 (([] : List Int)) 0) = some r := h
 clear h
 obtain ⟨y292, hy292⟩ : ∃ y_ : List Int, y_ = (([] : List Int)) := ⟨_, rfl⟩
 replace H : (spec_l3Flip.l0 k a0 y292 0) = some r := zH hy292 H
 have Ny292 := A0_ hy292; clear hy292; have H' := A0_ H; clear H
 go_enter Tryz.func30, Tryz.ntmps30
 go_wp2_with (first | ((with_reducible refine gD (N := 5) rfl ?_); refine Kd.R_lit (Kd.int .i64) _ 3 ?hg (N := 5) ?hd (xs := ([] : List Int)) (inner := []) (ok := fun _ => True) (okp := fun _ => True) ?hr ?hp (fun _ hk => hk) trivial (Below.refl _ _) (Nat.le_refl _) (by simp) ?_; (case hd => rfl); (case hg => rfl); (case hr => first | (go_simp; done) | (go_simp; rfl)); (case hp => exact (Reps.none _ _)); intro v293 w2 ho3 hb hg_ hnew_; clear hg_ hnew_; (first | rw [← Ny292.out] at ho3 | (simp only [Int.reduceToNat] at ho3; rw [← Ny292.out] at ho3)); have HO294 := A0_ (rL ho3 (bZ (zB_ HB))); replace HB := zB HB hb; clear hb ho3))
 go_loopg [3, 4] k (fun kq v3 v4 w' => ∃ (x3_1 : List Int) (x4_1 : Int), v4 = .int .i64 x4_1 ∧ Aside0 (spec_l3Flip.l0 kq a0 x3_1 x4_1 = some r) ∧ Aside0 (kq ≤ k) ∧ Aside0 (Kd.R (Kd.int .i64) 3 w' w.heap.size (fun _ => True) v3 x3_1) ∧ Aside0 (Below w.heap.size w w'))
 case atStart => exact ⟨(y292), (0), zt, H', ⟨Nat.le_refl _⟩, ⟨zR_ HO294⟩, ⟨zB_ HB⟩⟩
 case round =>
  clear H'; (try clear p2); (try clear c3); obtain ⟨x3_1, x4_1, rfl, HA, HK1, HO_3, HB⟩ := hrel
  cases gk with
  | zero => exact absurd HA.out (by simp [spec_l3Flip.l0])
  | succ k1 =>
   have H := HA.out; clear HA; simp only [spec_l3Flip.l0] at H
   by_cases c4 : x4_1 < a0
   ·rw [if_pos c4] at H
    have c4b0 := dT c4; clear c4
    obtain ⟨y295, hy295⟩ : ∃ y_ : List Int, y_ = (([wrap64 ((wrap64 (2 * x4_1)) + 1), wrap64 (2 * x4_1)] : List Int)) := ⟨_, rfl⟩
    replace H : (if x3_1.length + y295.length < 17592186044416 then (spec_l3Flip.l0 k1 a0 (x3_1 ++ y295) (wrap64 (x4_1 + 1))) else (none)) = some r := zH hy295 H
    have Ny295 := A0_ hy295; clear hy295
    by_cases c5 : x3_1.length + y295.length < 17592186044416
    ·rw [if_pos c5] at H
     have LMc5 := A0_ c5; clear c5
     obtain ⟨y298, hy298⟩ : ∃ y_ : List Int, y_ = (x3_1 ++ y295) := ⟨_, rfl⟩
     replace H : (spec_l3Flip.l0 k1 a0 y298 (wrap64 (x4_1 + 1))) = some r := zH hy298 H
     have Ny298 := A0_ hy298; clear hy298; have H' := A0_ H; clear H
     go_wp2_with (first | ((with_reducible refine gD (N := 17) rfl ?_); refine Kd.R_lit (Kd.int .i64) _ 3 ?hg (N := 17) ?hd (xs := ([wrap64 ((wrap64 (2 * x4_1)) + 1), wrap64 (2 * x4_1)] : List Int)) (inner := [.int .i64 (wrap64 ((wrap64 (2 * x4_1)) + 1)), .int .i64 (wrap64 (2 * x4_1))]) (ok := fun _ => True) (okp := fun _ => True) ?hr ?hp (fun _ hk => hk) trivial (Below.refl _ _) (Nat.le_refl _) (by simp) ?_; (case hd => rfl); (case hg => rfl); (case hr => first | (go_simp; done) | (go_simp; rfl)); (case hp => exact (Reps.one (show Kd.M (Kd.int .i64) _ _ _ (wrap64 ((wrap64 (2 * x4_1)) + 1)) [.int .i64 (wrap64 ((wrap64 (2 * x4_1)) + 1))] from rfl) (Reps.one (show Kd.M (Kd.int .i64) _ _ _ (wrap64 (2 * x4_1)) [.int .i64 (wrap64 (2 * x4_1))] from rfl) (Reps.none _ _)))); intro v296 w6 ho7 hb hg_ hnew_; clear hg_ hnew_; (first | rw [← Ny295.out] at ho7 | (simp only [Int.reduceToNat] at ho7; rw [← Ny295.out] at ho7)); have HO297 := A0_ (rL (Kd.R_new' ho7 (rX (zR_ HO_3))) (bZ (zB_ HB))); replace HO_3 := A0_ (Kd.R_elder' (zR_ HO_3) (Kd.R_base ho7) hb); replace HB := zB HB hb; clear hb ho7; obtain ⟨Ao9, co9, eo9⟩ := rS HO297.out; subst eo9) | ((with_reducible refine gB (b := .append) (xs := #[.tmp 11, .tmp 17]) rfl ?_); at_builtin; refine Kd.R_append_rows (Kd.int .i64) (w0 := w) w.heap.size rfl (.tmp 11) (.tmp 17) 23 3 (.int .i64 0) 8 rfl Tryz.underlying23 info3 rfl (by decide) (by omega) u3 x3_1 y295 _ _ _ (fun k_ => some k_ ≠ (.slice Ao9 y295.length co9 : Value).ownBlock) (fun _ => False) rfl rfl ?aO ?aR (fun _ _ h => h) (fun _ h => h.elim) ?aF ?aB ?aS ?aL ?_; (case aR => exact zD HO297); (case aB => exact (zB_ HB)); (case aF => exact (fun k_ hk => Kd.fresh' (rX (zR_ HO297)) k_ hk)); (case aO => exact (zmR HO_3 (fun _ hk => hk.2))); (case aS => exact (bZ (zB_ HB))); (case aL => have := LMc5.out; omega); intro v299 w8 ho hb hg hat; rw [← Ny298.out] at ho; replace HO297 := A0_ (Kd.R_after (ok := (fun _ => True)) (zR_ HO297) hg hat); replace HB := A0_ (hb); have HO300 := A0_ (ho); clear HO_3 ho hb hg hat))
     go_roundg k1
     case measure => have := HK1.out; omega
     case rel => exact ⟨(y298), (wrap64 (x4_1 + 1)), zt, H', ⟨by have := HK1.out; omega⟩, ⟨zmR HO300 (fun _ hk => trivial)⟩, ⟨zB_ HB⟩⟩
    rw [if_neg c5] at H
    exact absurd H (by simp)
   rw [if_neg c4] at H; have c4b0 := dF c4; clear c4; obtain rfl := sI H
   go_wp2
   go_ret
   exact ⟨_, by first | rfl | (simp [*] <;> rfl), zR_ HO_3, zB_ HB⟩

/-! ### spec_TutteQuad: function 8 -/
mutual
def spec_TutteQuad.j0 : Nat → Bool → List Int → List Int → Option (List Int × List Int × Bool)
  | 0, _, _, _ => none
  | k + 1, x15, x302000, x302001 => if x15 = true then (some (([] : List Int), ([] : List Int), false)) else ((spec_l2Faces.f k x302000 x302001).bind fun t304 => ((spec_l1Back.f k t304).bind fun t307 => ((spec_l3Flip.f k (x302000.length : Int)).bind fun t313 => (spec_TutteQuad.l0 k t307 0 x302000 x302001 (([] : List Int)) t313))))
def spec_TutteQuad.l0 : Nat → List Int → Int → List Int → List Int → List Int → List Int → Option (List Int × List Int × Bool)
  | 0, _, _, _, _, _, _ => none
  | k + 1, x4, x6, x302000, x302001, x317000, x317001 => if x6 < (x302000.length : Int) then (if 0 ≤ x6 then (if x6 < (x4.length : Int) then ((some (([wrap64 (2 * (rd x302000 x6)), wrap64 ((wrap64 (2 * (rd x4 x6))) + 1)] : List Int) : List Int)).bind fun y319 => (if x317000.length + y319.length < 17592186044416 then (spec_TutteQuad.l0 k x4 (wrap64 (x6 + 1)) x302000 x302001 (x317000 ++ y319) x317001) else (none))) else (none)) else (none)) else (some (x317000, x317001, true))
end
def spec_TutteQuad.f (k : Nat) (l0_0 : List Int) (l0_1 : List Int) : Option (List Int × List Int × Bool) := (spec_MapValid.f k l0_0 l0_1).bind fun t303 => (if t303 = true then (spec_TutteQuad.j0 k (decide ((l0_0.length : Int) > 6)) l0_0 l0_1) else (spec_TutteQuad.j0 k true l0_0 l0_1))
def spec_TutteQuad.T8 : Bool × List (List Nat × List Nat) := (true, [([], []), ([0], [0]), ([], []), ([2], [2]), ([], []), ([3, 4], [3, 4]), ([5], [5]), ([6], [6]), ([], []), ([], []), ([8, 9], [8, 9]), ([10], [10]), ([11], [11]), ([12], [12]), ([7, 13], [7, 13]), ([1, 14], [1, 14]), ([0, 1, 2, 3, 4, 5, 6, 7, 8, 9, 10, 11, 12, 13, 14, 15], []), ([16, 15, 15, 0, 1, 2, 3, 4, 5, 6, 7, 8, 9, 10, 11, 12, 13, 14, 15], [15, 16])])
def spec_TutteQuad.B8 : List Nat := [0, 1, 0, 4, 0, 28, 60, 124, 0, 0, 768, 1792, 3840, 7936, 16380, 32767, 65535, 131071]
theorem spec_TutteQuad.tab8 : rtab .any (opsOf Tryz.f8 8) = spec_TutteQuad.T8 := by kernel_rfl
theorem spec_TutteQuad.bits8 : waitsOk spec_TutteQuad.T8.2 spec_TutteQuad.B8 = true := by kernel_rfl
set_option maxHeartbeats 8000000 in
set_option maxRecDepth 100000 in
theorem spec_TutteQuad.calls (k : Nat) (A0_0 : Option Addr) (c0_0 : Nat) (l0_0 : List Int) (A0_1 : Option Addr) (c0_1 : Nat) (l0_1 : List Int) (r1 : List Int) (r2 : List Int) (r3 : Bool) (w : World) (hr0_0 : Kd.C (Kd.int .i64) w A0_0 l0_0.length l0_0) (hc0_0 : l0_0.length ≤ c0_0) (hr0_1 : Kd.C (Kd.int .i64) w A0_1 l0_1.length l0_1) (hc0_1 : l0_1.length ≤ c0_1) (h : spec_TutteQuad.f k l0_0 l0_1 = some (r1, r2, r3)) :
    Calls Tryz.prog 8 #[.agg #[.slice A0_0 l0_0.length c0_0, .slice A0_1 l0_1.length c0_1]] w fun e w' => ∃ v0_ v1_ : Value, e = .returned (.tuple #[.agg #[v0_, v1_], .bool r3]) ∧ Kd.R (Kd.int .i64) 3 w' w.heap.size (fun k_ => some k_ ≠ (v1_ : Value).ownBlock) v0_ r1 ∧ Kd.R (Kd.int .i64) 3 w' w.heap.size (fun k_ => some k_ ≠ (v0_ : Value).ownBlock) v1_ r2 ∧ Below w.heap.size w w' := by
 have hu25 := Tryz.underlying25; have HR0_0 := A0_ hr0_0; have HC0_0 := A0_ hc0_0; clear hr0_0 hc0_0; have HR0_1 := A0_ hr0_1; have HC0_1 := A0_ hc0_1; clear hr0_1 hc0_1
 have HB := A0_ (Below.refl w.heap.size w)
 have H : ((spec_MapValid.f k l0_0 l0_1).bind fun t303 => (if t303 = true then (spec_TutteQuad.j0 k (decide ((l0_0.length : Int) > 6)) l0_0 l0_1) else (spec_TutteQuad.j0 k true l0_0 l0_1))) = some (r1, r2, r3) := h
 clear h; have HC2 := A0_ H; clear H
 go_enter Tryz.func8, Tryz.ntmps8
 go_upto_region 1 with (first | ((with_reducible refine gD (N := 1) rfl ?_); refine zX (N := 1) (cs := #[.slice A0_0 l0_0.length c0_0, .slice A0_1 l0_1.length c0_1]) (t := 25) ?_; intro gb301 hg w3 hbox hb; have BK301 := A0_ (hbox); have GW301 := zG hg HB; have GE301 := zG hg HB; replace HB := zB HB hb; clear hb hbox hg) | ((with_reducible refine gD (N := 2) rfl ?_); refine zX (N := 2) (cs := #[.slice none 0 0, .slice none 0 0]) (t := 25) ?_; intro gb302 hg w4 hbox hb; have BK302 := A0_ (hbox); have GW302 := zG hg HB; have GE302 := zG hg HB; replace HB := zB HB hb; have NB301_302 := zL hg BK301; have NB302_301 := zM hg BK301; replace BK301 := zK BK301 hb; clear hb hbox hg))
 (try simp only [Act.put, List.setIfInBounds_toArray, List.set_cons_zero, List.set_cons_succ])
 go_cut [15] (fun v15 wc => ∃ (kq : Nat) (x15_1 : Bool), v15 = .bool x15_1 ∧ Aside0 (spec_TutteQuad.j0 kq x15_1 l0_0 l0_1 = some (r1, r2, r3)) ∧ Aside0 (kq ≤ k) ∧ Aside0 (wc.heap[gb301]? = some (.cells #[(.slice A0_0 l0_0.length c0_0), (.slice A0_1 l0_1.length c0_1)] 25 (0, 0))) ∧ Aside0 (wc.heap[gb302]? = some (.cells #[(.slice none 0 0), (.slice none 0 0)] 25 (0, 0))) ∧ Aside0 (Below w.heap.size w wc))
 case first =>
  have H := HC2.out; clear HC2; obtain ⟨t303, A5, H⟩ := zbind H
  by_cases c6 : t303 = true
  ·subst c6
   have H1 : (spec_TutteQuad.j0 k (decide ((l0_0.length : Int) > 6)) l0_0 l0_1) = some (r1, r2, r3) := by rw [if_pos rfl] at H; exact H
   clear H; have H := H1; clear H1; have H' := A0_ H; clear H; have hnb7 := NB301_302.out; have hnc7 := NB302_301.out; have hcz8_0 := zc0 BK301; have hcz8_1 := zc1 BK301; have hfz8_0 := kF BK301.out 0; have hfz8_1 := kF BK301.out 1
   go_wp2_with (first | ((with_reducible refine gC (f := 27) rfl ?_); refine zJ (some 8) Tryz.func27 #[.agg #[.slice A0_0 l0_0.length c0_0, .slice A0_1 l0_1.length c0_1]] ?_; (with_reducible refine (spec_MapValid.calls k _ _ l0_0 _ _ l0_1 true _ ?side1 ?side2 ?side3 ?side4 A5.out).mono ?_); (case side1 => exact zC HR0_0 HB); (case side2 => exact HC0_0.out); (case side3 => exact zC HR0_1 HB); (case side4 => exact HC0_1.out); rintro e w9 ⟨rfl, hb⟩; refine ⟨_, rfl, ?_⟩; replace BK301 := zK BK301 hb; replace BK302 := zK BK302 hb; replace HB := zB HB hb; (try clear hb); have hcz10_0 := zc0 BK301; have hcz10_1 := zc1 BK301; have hfz10_0 := kF BK301.out 0; have hfz10_1 := kF BK301.out 1))
   go_meet
   case rel => exact ⟨_, (decide ((l0_0.length : Int) > 6)), zt, H', zo, ⟨zK_ BK301⟩, ⟨zK_ BK302⟩, ⟨zB_ HB⟩⟩
  replace c6 := Bool.eq_false_iff.mpr c6; subst c6
  have H1 : (spec_TutteQuad.j0 k true l0_0 l0_1) = some (r1, r2, r3) := by rw [if_neg (show ¬ (false = true) by decide)] at H; exact H
  clear H; have H := H1; clear H1; have H' := A0_ H; clear H; have hnb11 := NB301_302.out; have hnc11 := NB302_301.out; have hcz12_0 := zc0 BK301; have hcz12_1 := zc1 BK301; have hfz12_0 := kF BK301.out 0; have hfz12_1 := kF BK301.out 1
  go_wp2_with (first | ((with_reducible refine gC (f := 27) rfl ?_); refine zJ (some 8) Tryz.func27 #[.agg #[.slice A0_0 l0_0.length c0_0, .slice A0_1 l0_1.length c0_1]] ?_; (with_reducible refine (spec_MapValid.calls k _ _ l0_0 _ _ l0_1 false _ ?side1 ?side2 ?side3 ?side4 A5.out).mono ?_); (case side1 => exact zC HR0_0 HB); (case side2 => exact HC0_0.out); (case side3 => exact zC HR0_1 HB); (case side4 => exact HC0_1.out); rintro e w13 ⟨rfl, hb⟩; refine ⟨_, rfl, ?_⟩; replace BK301 := zK BK301 hb; replace BK302 := zK BK302 hb; replace HB := zB HB hb; (try clear hb)))
  go_meet
  case rel => exact ⟨_, (true), zt, H', zo, ⟨zK_ BK301⟩, ⟨zK_ BK302⟩, ⟨zB_ HB⟩⟩
 case rest =>
  clear HC2; (try clear c1); (try clear c2); (try clear p2); (try clear c6); (try clear c7); (try clear c8); (try clear c11); (try clear hcz10_0); (try clear hcz10_1); (try clear hcz12_0); (try clear hcz12_1); (try clear hcz8_0); (try clear hcz8_1); (try clear hfz10_0); (try clear hfz10_1); (try clear hfz12_0); (try clear hfz12_1); (try clear hfz8_0); (try clear hfz8_1); obtain ⟨kq, x15_1, rfl, HA, HJ1, BK301, BK302, HB⟩ := hcut
  cases kq with
  | zero => exact absurd HA.out (by simp [spec_TutteQuad.j0])
  | succ kj1 =>
   have H := HA.out; clear HA; simp only [spec_TutteQuad.j0] at H
   by_cases c14 : x15_1 = true
   ·subst c14
    have H1 : (some (([] : List Int), ([] : List Int), false)) = some (r1, r2, r3) := by rw [if_pos rfl] at H; exact H
    clear H; have H := H1; clear H1; simp only [Option.some.injEq, Prod.mk.injEq] at H; obtain ⟨rfl, rfl, rfl⟩ := H; have hnb15 := NB302_301.out; have hnc15 := NB301_302.out; have hcz16_0 := zc0 BK302; have hcz16_1 := zc1 BK302; have hfz16_0 := kF BK302.out 0; have hfz16_1 := kF BK302.out 1
    go_wp2
    refine bodyPost_ret (results_ct rfl _ _ gb302 25 #[.slice none 0 0, .slice none 0 0] (0, 0) _ rfl (by (with_reducible repeat (first | refine kN ?_ _ | refine kD ?_ | refine kA ?_ _)); refine blk_put (cs := #[.slice none 0 0, .slice none 0 0]) ?_ 1 _ rfl; (with_reducible repeat (first | refine kN ?_ _ | refine kD ?_ | refine kA ?_ _)); refine blk_put (cs := #[.slice none 0 0, .slice none 0 0]) ?_ 0 _ rfl; (with_reducible repeat (first | refine kN ?_ _ | refine kD ?_ | refine kA ?_ _)); exact BK302.out) Tryz.underlying25 rfl (by kernel_rfl)) rfl ?_
    exact ⟨_, _, by first | rfl | (simp [*] <;> rfl), by first | exact Kd.R_nil _ _ _ _ _ | exact Kd.N_nil _ _ _ _ _ | exact Kd.V_nil _ _ _ _ _ | exact Kd.Q_nil _ _ _ _ _ | exact Kd.S_nil _ _ _ _ _, by first | exact Kd.R_nil _ _ _ _ _ | exact Kd.N_nil _ _ _ _ _ | exact Kd.V_nil _ _ _ _ _ | exact Kd.Q_nil _ _ _ _ _ | exact Kd.S_nil _ _ _ _ _, zB_ HB⟩
   replace c14 := Bool.eq_false_iff.mpr c14; subst c14
   have H1 : ((spec_l2Faces.f kj1 l0_0 l0_1).bind fun t304 => ((spec_l1Back.f kj1 t304).bind fun t307 => ((spec_l3Flip.f kj1 (l0_0.length : Int)).bind fun t313 => (spec_TutteQuad.l0 kj1 t307 0 l0_0 l0_1 (([] : List Int)) t313)))) = some (r1, r2, r3) := by rw [if_neg (show ¬ (false = true) by decide)] at H; exact H
   clear H; have H := H1; clear H1; obtain ⟨t304, A17, H⟩ := zbind H; obtain ⟨t307, A18, H⟩ := zbind H
   obtain ⟨y310, hy310⟩ : ∃ y_ : List Int, y_ = (([] : List Int)) := ⟨_, rfl⟩
   replace H : ((spec_l3Flip.f kj1 (l0_0.length : Int)).bind fun t313 => (spec_TutteQuad.l0 kj1 t307 0 l0_0 l0_1 y310 t313)) = some (r1, r2, r3) := zH hy310 H
   have Ny310 := A0_ hy310; clear hy310; obtain ⟨t313, A19, H⟩ := zbind H; have H' := A0_ H; clear H; have hnb20 := NB301_302.out; have hnc20 := NB302_301.out; have hcz21_0 := zc0 BK301; have hcz21_1 := zc1 BK301; have hfz21_0 := kF BK301.out 0; have hfz21_1 := kF BK301.out 1
   go_wp2_with (first | ((with_reducible refine gC (f := 29) rfl ?_); refine zJ (some 18) Tryz.func29 #[.agg #[.slice A0_0 l0_0.length c0_0, .slice A0_1 l0_1.length c0_1]] ?_; (with_reducible refine (spec_l2Faces.calls kj1 _ _ l0_0 _ _ l0_1 t304 _ ?side1 ?side2 ?side3 ?side4 A17.out).mono ?_); (case side1 => exact zC HR0_0 HB); (case side2 => exact HC0_0.out); (case side3 => exact zC HR0_1 HB); (case side4 => exact HC0_1.out); rintro e w22 ⟨v305, rfl, ho0, hb⟩; refine ⟨_, rfl, ?_⟩; have HO306 := A0_ (rL ho0 (bZ (zB_ HB))); replace BK301 := zK BK301 hb; replace BK302 := zK BK302 hb; replace HB := zB HB hb; (try clear hb); (try clear ho0); obtain ⟨Ao23, co23, eo23⟩ := rS HO306.out; subst eo23) | ((with_reducible refine gC (f := 28) rfl ?_); refine zJ (some 19) Tryz.func28 #[.slice Ao23 t304.length co23] ?_; (with_reducible refine (spec_l1Back.calls kj1 _ _ t304 t307 _ ?side1 ?side2 A18.out).mono ?_); (case side1 => exact zD HO306); (case side2 => exact (rR HO306.out).2.1); rintro e w24 ⟨v308, rfl, ho0, hb⟩; refine ⟨_, rfl, ?_⟩; have HO309 := A0_ (rL (Kd.R_new' ho0 (rX (zR_ HO306))) (bZ (zB_ HB))); replace HO306 := A0_ (Kd.R_elder' (zR_ HO306) (Kd.R_base ho0) hb); replace BK301 := zK BK301 hb; replace BK302 := zK BK302 hb; replace HB := zB HB hb; (try clear hb); (try clear ho0)) | ((with_reducible refine gD (N := 20) rfl ?_); refine Kd.R_lit (Kd.int .i64) _ 3 ?hg (N := 20) ?hd (xs := ([] : List Int)) (inner := []) (ok := fun _ => True) (okp := fun _ => True) ?hr ?hp (fun _ hk => hk) trivial (Below.refl _ _) (Nat.le_refl _) (by simp) ?_; (case hd => rfl); (case hg => rfl); (case hr => first | (go_simp; done) | (go_simp; rfl)); (case hp => exact (Reps.none _ _)); intro v311 w25 ho26 hb hg_ hnew_; clear hg_ hnew_; (first | rw [← Ny310.out] at ho26 | (simp only [Int.reduceToNat] at ho26; rw [← Ny310.out] at ho26)); have HO312 := A0_ (rL (Kd.R_new' (Kd.R_new' ho26 (rX (zR_ HO306))) (rX (zR_ HO309))) (bZ (zB_ HB))); replace HO306 := A0_ (Kd.R_elder' (zR_ HO306) (Kd.R_base ho26) hb); replace HO309 := A0_ (Kd.R_elder' (zR_ HO309) (Kd.R_base ho26) hb); replace BK301 := zK BK301 hb; replace BK302 := zK BK302 hb; replace HB := zB HB hb; clear hb ho26; have hcz27_0 := zc0 BK301; have hcz27_1 := zc1 BK301; have hfz27_0 := kF BK301.out 0; have hfz27_1 := kF BK301.out 1) | ((with_reducible refine gC (f := 30) rfl ?_); refine zJ (some 24) Tryz.func30 #[.int .i64 (l0_0.length : Int)] ?_; (with_reducible refine (spec_l3Flip.calls kj1 (l0_0.length : Int) t313 _ A19.out).mono ?_); rintro e w28 ⟨v314, rfl, ho0, hb⟩; refine ⟨_, rfl, ?_⟩; have HO315 := A0_ (rL (Kd.R_new' (Kd.R_new' (Kd.R_new' ho0 (rX (zR_ HO306))) (rX (zR_ HO309))) (rX (zR_ HO312))) (bZ (zB_ HB))); replace HO306 := A0_ (Kd.R_elder' (zR_ HO306) (Kd.R_base ho0) hb); replace HO309 := A0_ (Kd.R_elder' (zR_ HO309) (Kd.R_base ho0) hb); replace HO312 := A0_ (Kd.R_elder' (zR_ HO312) (Kd.R_base ho0) hb); replace BK301 := zK BK301 hb; replace BK302 := zK BK302 hb; replace HB := zB HB hb; (try clear hb); (try clear ho0); obtain ⟨Ao29, co29, eo29⟩ := rS HO315.out; subst eo29; obtain ⟨Ao30, co30, eo30⟩ := rS HO312.out; subst eo30) | ((with_reducible refine gD (N := 5) rfl ?_); refine zX (N := 5) (cs := #[.slice none 0 0, .slice none 0 0]) (t := 25) ?_; intro gb316 hg w31 hbox hb; replace HO306 := zR HO306 hb; replace HO309 := zR HO309 hb; replace HO312 := zR HO312 hb; replace HO315 := zR HO315 hb; have BK316 := A0_ (hbox); have GW316 := zG hg HB; have GE316 := zG hg HB; replace HB := zB HB hb; have NB301_316 := zL hg BK301; have NB316_301 := zM hg BK301; replace BK301 := zK BK301 hb; have NB302_316 := zL hg BK302; have NB316_302 := zM hg BK302; replace BK302 := zK BK302 hb; clear hb hbox hg; have hnb32 := NB316_301.out; have hnc32 := NB301_316.out; have hnb33 := NB316_302.out; have hnc33 := NB302_316.out; have hcz34_0 := zc0 BK316; have hcz34_1 := zc1 BK316; have hfz34_0 := kF BK316.out 0; have hfz34_1 := kF BK316.out 1))
   go_loopg [6] kj1 (fun kq v6 w' => ∃ (x6_2 : Int) (x317000_2 : List Int) (u317000 : Value), v6 = .int .i64 x6_2 ∧ Aside0 (spec_TutteQuad.l0 kq t307 x6_2 l0_0 l0_1 x317000_2 t313 = some (r1, r2, r3)) ∧ Aside0 (kq ≤ kj1) ∧ Aside0 (Kd.R (Kd.int .i64) 3 w' w.heap.size (fun k_ => some k_ ≠ (u317000 : Value).ownBlock ∧ some k_ ≠ ((.slice Ao29 t313.length co29) : Value).ownBlock) v308 t307) ∧ Aside0 (Kd.R (Kd.int .i64) 3 w' w.heap.size (fun k_ => some k_ ≠ (v308 : Value).ownBlock ∧ some k_ ≠ ((.slice Ao29 t313.length co29) : Value).ownBlock) u317000 x317000_2) ∧ Aside0 (Kd.R (Kd.int .i64) 3 w' w.heap.size (fun k_ => some k_ ≠ (v308 : Value).ownBlock ∧ some k_ ≠ (u317000 : Value).ownBlock) (.slice Ao29 t313.length co29) t313) ∧ Aside0 (w'.heap[gb301]? = some (.cells #[(.slice A0_0 l0_0.length c0_0), (.slice A0_1 l0_1.length c0_1)] 25 (0, 0))) ∧ Aside0 (w'.heap[gb302]? = some (.cells #[(.slice none 0 0), (.slice none 0 0)] 25 (0, 0))) ∧ Aside0 (w'.heap[gb316]? = some (.cells #[u317000, (.slice Ao29 t313.length co29)] 25 (0, 0))) ∧ Aside0 (Below w.heap.size w w'))
   case atStart => exact ⟨(0), (y310), (.slice Ao30 y310.length co30), zt, H', ⟨Nat.le_refl _⟩, ⟨by (with_reducible repeat (first | apply rA | apply rN | apply rD)); exact rM (rF (p := ⟨gb316, 1, none⟩) (rF (p := ⟨gb316, 0, none⟩) (rY HO309.out BK316.out (by decide)) (fun _ hk => hk.2) (.slice Ao30 y310.length co30)) (fun _ hk => hk.2) (.slice Ao29 t313.length co29)) (fun _ hk => ⟨hk.1.1.2, hk.1.2⟩)⟩, ⟨by (with_reducible repeat (first | apply rA | apply rN | apply rD)); exact rM (rF (p := ⟨gb316, 1, none⟩) (rF (p := ⟨gb316, 0, none⟩) (rY HO312.out BK316.out (by decide)) (fun _ hk => hk.2) (.slice Ao30 y310.length co30)) (fun _ hk => hk.2) (.slice Ao29 t313.length co29)) (fun _ hk => ⟨hk.1.1.2, hk.1.2⟩)⟩, ⟨by (with_reducible repeat (first | apply rA | apply rN | apply rD)); exact rM (rF (p := ⟨gb316, 1, none⟩) (rF (p := ⟨gb316, 0, none⟩) (rY HO315.out BK316.out (by decide)) (fun _ hk => hk.2) (.slice Ao30 y310.length co30)) (fun _ hk => hk.2) (.slice Ao29 t313.length co29)) (fun _ hk => ⟨hk.1.1.2, hk.1.2⟩)⟩, ⟨by (with_reducible repeat (first | refine kN ?_ _ | refine kD ?_ | refine kA ?_ _)); refine blk_far ?_ NB301_316.out _; (with_reducible repeat (first | refine kN ?_ _ | refine kD ?_ | refine kA ?_ _)); refine blk_far ?_ NB301_316.out _; (with_reducible repeat (first | refine kN ?_ _ | refine kD ?_ | refine kA ?_ _)); exact BK301.out⟩, ⟨by (with_reducible repeat (first | refine kN ?_ _ | refine kD ?_ | refine kA ?_ _)); refine blk_far ?_ NB302_316.out _; (with_reducible repeat (first | refine kN ?_ _ | refine kD ?_ | refine kA ?_ _)); refine blk_far ?_ NB302_316.out _; (with_reducible repeat (first | refine kN ?_ _ | refine kD ?_ | refine kA ?_ _)); exact BK302.out⟩, ⟨by (with_reducible repeat (first | refine kN ?_ _ | refine kD ?_ | refine kA ?_ _)); refine blk_put (cs := #[.slice Ao30 y310.length co30, .slice none 0 0]) ?_ 1 _ rfl; (with_reducible repeat (first | refine kN ?_ _ | refine kD ?_ | refine kA ?_ _)); refine blk_put (cs := #[.slice none 0 0, .slice none 0 0]) ?_ 0 _ rfl; (with_reducible repeat (first | refine kN ?_ _ | refine kD ?_ | refine kA ?_ _)); exact BK316.out⟩, ⟨zB_ HB⟩⟩
   case round =>
    clear H'; (try clear c1); (try clear c2); (try clear p2); (try clear c3); (try clear c6); (try clear c7); (try clear c8); (try clear c11); (try clear c14); (try clear c15); (try clear c20); (try clear c27); (try clear c28); (try clear c29); (try clear c30); (try clear c32); (try clear c33); (try clear hcz10_0); (try clear hcz10_1); (try clear hcz12_0); (try clear hcz12_1); (try clear hcz16_0); (try clear hcz16_1); (try clear hcz21_0); (try clear hcz21_1); (try clear hcz27_0); (try clear hcz27_1); (try clear hcz34_0); (try clear hcz34_1); (try clear hcz8_0); (try clear hcz8_1); (try clear hfz10_0); (try clear hfz10_1); (try clear hfz12_0); (try clear hfz12_1); (try clear hfz16_0); (try clear hfz16_1); (try clear hfz21_0); (try clear hfz21_1); (try clear hfz27_0); (try clear hfz27_1); (try clear hfz34_0); (try clear hfz34_1); (try clear hfz8_0); (try clear hfz8_1); (try clear p2); obtain ⟨x6_2, x317000_2, u317000, rfl, HA, HK2, HO_4, HO_317000, HO_317001, BK301, BK302, BK316, HB⟩ := hrel
    cases gk with
    | zero => exact absurd HA.out (by simp [spec_TutteQuad.l0])
    | succ k2 =>
     have H := HA.out; clear HA; simp only [spec_TutteQuad.l0] at H
     by_cases c35 : x6_2 < (l0_0.length : Int)
     ·rw [if_pos c35] at H
      have c35b0 := dT c35; clear c35
      by_cases c36 : 0 ≤ x6_2
      ·rw [if_pos c36] at H
       have c36b0 := dT c36; clear c36
       by_cases c37 : x6_2 < (t307.length : Int)
       ·rw [if_pos c37] at H
        have c37b0 := dT c37; clear c37
        obtain ⟨y319, hy319⟩ : ∃ y_ : List Int, y_ = (([wrap64 (2 * (rd l0_0 x6_2)), wrap64 ((wrap64 (2 * (rd t307 x6_2))) + 1)] : List Int)) := ⟨_, rfl⟩
        replace H : (if x317000_2.length + y319.length < 17592186044416 then (spec_TutteQuad.l0 k2 t307 (wrap64 (x6_2 + 1)) l0_0 l0_1 (x317000_2 ++ y319) t313) else (none)) = some (r1, r2, r3) := zH hy319 H
        have Ny319 := A0_ hy319; clear hy319
        by_cases c38 : x317000_2.length + y319.length < 17592186044416
        ·rw [if_pos c38] at H
         have LMc38 := A0_ c38; clear c38
         obtain ⟨y322, hy322⟩ : ∃ y_ : List Int, y_ = (x317000_2 ++ y319) := ⟨_, rfl⟩
         replace H : (spec_TutteQuad.l0 k2 t307 (wrap64 (x6_2 + 1)) l0_0 l0_1 y322 t313) = some (r1, r2, r3) := zH hy322 H
         have Ny322 := A0_ hy322; clear hy322; have H' := A0_ H; clear H; have hnb39 := NB301_302.out; have hnc39 := NB302_301.out; have hnb40 := NB301_316.out; have hnc40 := NB316_301.out; have hcz41_0 := zc0 BK301; have hcz41_1 := zc1 BK301; have hfz41_0 := kF BK301.out 0; have hfz41_1 := kF BK301.out 1
         try go_wp2
         replace HO_4 := A0_ (rD HO_4.out)
         replace HO_317000 := A0_ (rD HO_317000.out)
         replace HO_317001 := A0_ (rD HO_317001.out)
         replace BK301 := A0_ (kD BK301.out)
         replace BK302 := A0_ (kD BK302.out)
         replace BK316 := A0_ (kD BK316.out)
         replace HB := A0_ (bD HB.out)
         have p317 : 0 ≤ (x6_2 : Int) := zd
         have q317 : x6_2 < (l0_0.length : Int) := zd
         obtain ⟨ad317, e317, hx317_0⟩ := tI HR0_0.out x6_2 p317 q317; have hw317_0 := hx317_0
         cases e317
         try replace hx317_0 := (HB.out.cell (wL w _ hx317_0)).trans hx317_0
         replace p317 := eq_true p317; replace q317 := eq_true q317; obtain ⟨Ao43, co43, eo43⟩ := rS HO_4.out
         (first | subst eo43 | (injection eo43 with f1_ f2_ f3_; have f4_ := f1_.symm; have f5_ := f3_.symm; clear f1_ f2_ f3_; subst f4_; subst f5_))
         have p318 : 0 ≤ (x6_2 : Int) := zd
         have q318 : x6_2 < (t307.length : Int) := zd
         obtain ⟨ad318, e318, hx318_0⟩ := tI (rR HO_4.out).2.2 x6_2 p318 q318
         cases e318
         replace p318 := eq_true p318; replace q318 := eq_true q318
         refine start_ (n := 18) (S := fun w' => w'.cell? ⟨gb316, 0, none⟩ = some (u317000) ∧ w'.cell? ⟨gb316, 1, none⟩ = some (.slice Ao29 t313.length co29) ∧ w'.cell? ⟨gb301, 0, none⟩ = some (.slice (some ad317) l0_0.length c0_0) ∧ w'.cell? ⟨gb301, 1, none⟩ = some (.slice A0_1 l0_1.length c0_1) ∧ w'.cell? (ad317.add (x6_2).toNat) = some (.int .i64 (rd l0_0 x6_2)) ∧ w'.cell? (ad318.add (x6_2).toNat) = some (.int .i64 (rd t307 x6_2))) (ds := [15, 17]) #[false, false, false, false, false, false, false, false, false, false, false, false, false, false, false, false, false, false] (by kernel_rfl) rfl rfl ⟨(kC BK316.out 0).trans rfl, (kC BK316.out 1).trans rfl, (kC BK301.out 0).trans rfl, (kC BK301.out 1).trans rfl, ((HB.out.cell (wL w _ hw317_0)).trans hw317_0), hx318_0⟩ (fun hHeld => ?_); refine with_tabW spec_TutteQuad.tab8 spec_TutteQuad.bits8 (fun HT_ HW_ => ?_)
         generalize wr.drew = w42 at HO_4 HO_317000 HO_317001 BK301 BK302 BK316 HB hx317_0 hx318_0 hHeld ⊢
         refine zP 0 (some 33) #[true,false,false,false,false,false,false,false,false,false,false,false,false,false,false,false,false,false] ?_
         refine zP 2 (some 35) #[true,false,true,false,false,false,false,false,false,false,false,false,false,false,false,false,false,false] ?_
         refine zP 4 (some 37) #[true,false,true,false,true,false,false,false,false,false,false,false,false,false,false,false,false,false] ?_
         refine zP 8 (some 41) #[true,false,true,false,true,false,false,false,true,false,false,false,false,false,false,false,false,false] ?_
         refine zP 9 (some 42) #[true,false,true,false,true,false,false,false,true,true,false,false,false,false,false,false,false,false] ?_
         refine zP 10 (some 43) #[true,false,true,false,true,false,false,false,true,true,true,false,false,false,false,false,false,false] ?_
         refine take_ (i := 1) (N := some 34) (v := ?_) (a' := ?_) #[true, true, true, false, true, false, false, false, true, true, true, false, false, false, false, false, false, false] rfl rfl (take_ofW HT_.out HW_.out (by kernel_rfl)) (fun _ _ _ h => h) (Or.inl ⟨by rfl, ?_⟩) hHeld ?_ ?_
         rotate_left
         ·rintro w' ⟨s0, s1, s2, s3, s4, s5⟩
          go_simp
          with_reducible rfl
         rotate_left
         ·simp only [Act.put, List.setIfInBounds_toArray, List.set_cons_zero, List.set_cons_succ, i64_w, i32_w]
          rfl
         refine take_ (i := 3) (N := some 36) (v := ?_) (a' := ?_) #[true, true, true, true, true, false, false, false, true, true, true, false, false, false, false, false, false, false] rfl rfl (take_ofW HT_.out HW_.out (by kernel_rfl)) (fun _ _ _ h => h) (Or.inl ⟨by rfl, ?_⟩) hHeld ?_ ?_
         rotate_left
         ·rintro w' ⟨s0, s1, s2, s3, s4, s5⟩
          go_simp
          with_reducible rfl
         rotate_left
         ·simp only [Act.put, List.setIfInBounds_toArray, List.set_cons_zero, List.set_cons_succ, i64_w, i32_w]
          rfl
         refine zP 5 (some 38) #[true,true,true,true,true,true,false,false,true,true,true,false,false,false,false,false,false,false] ?_
         refine take_ (i := 6) (N := some 39) (v := ?_) (a' := ?_) #[true, true, true, true, true, true, true, false, true, true, true, false, false, false, false, false, false, false] rfl rfl (take_ofW HT_.out HW_.out (by kernel_rfl)) (fun _ _ _ h => h) (Or.inl ⟨by rfl, ?_⟩) hHeld ?_ ?_
         rotate_left
         ·rintro w' ⟨s0, s1, s2, s3, s4, s5⟩
          go_simp
          with_reducible rfl
         rotate_left
         ·simp only [Act.put, List.setIfInBounds_toArray, List.set_cons_zero, List.set_cons_succ, i64_w, i32_w]
          rfl
         refine zP 7 (some 40) #[true,true,true,true,true,true,true,true,true,true,true,false,false,false,false,false,false,false] ?_
         refine take_ (i := 11) (N := some 44) (v := ?_) (a' := ?_) #[true, true, true, true, true, true, true, true, true, true, true, true, false, false, false, false, false, false] rfl rfl (take_ofW HT_.out HW_.out (by kernel_rfl)) (fun _ _ _ h => h) (Or.inl ⟨by rfl, ?_⟩) hHeld ?_ ?_
         rotate_left
         ·rintro w' ⟨s0, s1, s2, s3, s4, s5⟩
          go_simp
          with_reducible rfl
         rotate_left
         ·simp only [Act.put, List.setIfInBounds_toArray, List.set_cons_zero, List.set_cons_succ, i64_w, i32_w]
          rfl
         refine zP 12 (some 45) #[true,true,true,true,true,true,true,true,true,true,true,true,true,false,false,false,false,false] ?_
         refine zP 13 (some 46) #[true,true,true,true,true,true,true,true,true,true,true,true,true,true,false,false,false,false] ?_
         refine one_ (i := 14) (N := some 47) #[true, true, true, true, true, true, true, true, true, true, true, true, true, true, true, false, false, false] rfl rfl (one_of HT_.out (by kernel_rfl)) (by decide) (fun K hK => ?_)
         refine Kd.R_lit_step (Kd.int .i64) _ 3 ?hg (N := 47) ?hd (xs := ([wrap64 (2 * (rd l0_0 x6_2)), wrap64 ((wrap64 (2 * (rd t307 x6_2))) + 1)] : List Int)) (inner := [.int .i64 (wrap64 (2 * (rd l0_0 x6_2))), .int .i64 (wrap64 ((wrap64 (2 * (rd t307 x6_2))) + 1))]) (ok := fun _ => True) (okp := fun _ => True) ?hr ?hp (fun _ hk => hk) trivial (Below.refl _ _) (Nat.le_refl _) (by simp) ?_; (case hd => rfl); (case hg => rfl); (case hr => first | (go_simp; done) | (go_simp; rfl)); (case hp => exact (Reps.one (show Kd.M (Kd.int .i64) _ _ _ (wrap64 (2 * (rd l0_0 x6_2))) [.int .i64 (wrap64 (2 * (rd l0_0 x6_2)))] from rfl) (Reps.one (show Kd.M (Kd.int .i64) _ _ _ (wrap64 ((wrap64 (2 * (rd t307 x6_2))) + 1)) [.int .i64 (wrap64 ((wrap64 (2 * (rd t307 x6_2))) + 1))] from rfl) (Reps.none _ _))))
         intro v320 w44 ho45 hb hg_ hnew_
         have HS5_ := (hb.cell (wL _ _ (hHeld.2.2.2.2.2))).trans (hHeld.2.2.2.2.2)
         clear hg_ hnew_
         (first | rw [← Ny319.out] at ho45 | (simp only [Int.reduceToNat] at ho45; rw [← Ny319.out] at ho45))
         have HO321 := A0_ (rL (Kd.R_new' (Kd.R_new' (Kd.R_new' ho45 (rX (zR_ HO_4))) (rX (zR_ HO_317000))) (rX (zR_ HO_317001))) (bZ (zB_ HB)))
         replace HO_4 := A0_ (Kd.R_elder' (zR_ HO_4) (Kd.R_base ho45) hb)
         replace HO_317000 := A0_ (Kd.R_elder' (zR_ HO_317000) (Kd.R_base ho45) hb)
         replace HO_317001 := A0_ (Kd.R_elder' (zR_ HO_317001) (Kd.R_base ho45) hb)
         replace BK301 := zK BK301 hb; replace BK302 := zK BK302 hb; replace BK316 := zK BK316 hb; replace HB := zB HB hb; clear hb ho45; obtain ⟨Ao47, co47, eo47⟩ := rS HO321.out
         (first | subst eo47 | (injection eo47 with f1_ f2_ f3_; have f4_ := f1_.symm; have f5_ := f3_.symm; clear f1_ f2_ f3_; subst f4_; subst f5_))
         refine hK.out _ _ ⟨(kC BK316.out 0).trans rfl, (kC BK316.out 1).trans rfl, (kC BK301.out 0).trans rfl, (kC BK301.out 1).trans rfl, ((HB.out.cell (wL w _ hw317_0)).trans hw317_0), HS5_⟩ (fun hHeld => ?_)
         clear hK K
         refine norm_ (a' := ?_) ?_ ?_
         rotate_left
         ·show Act.put _ (some 47) _ = _
          simp only [Act.put, List.setIfInBounds_toArray, List.set_cons_zero, List.set_cons_succ, i64_w, i32_w]
          rfl
         refine last_ (i := 15) (N := some 48) #[true, true, true, true, true, true, true, true, true, true, true, true, true, true, true, true, false, false] rfl rfl (one_of HT_.out (by kernel_rfl)) (by decide) (fun K hK => ?_)
         refine Kd.R_append_rows_step (Kd.int .i64) (w0 := w) w.heap.size (by rfl) (.tmp 34) (.tmp 47) 23 3 (.int .i64 0) 8 rfl Tryz.underlying23 info3 rfl (by decide) (by omega) u317000 x317000_2 y319 _ _ _ (fun k_ => some k_ ≠ (.slice (some ad318) t307.length co43 : Value).ownBlock ∧ some k_ ≠ (.slice Ao29 t313.length co29 : Value).ownBlock ∧ some k_ ≠ (.slice Ao47 y319.length co47 : Value).ownBlock) (fun _ => False) rfl rfl ?aO ?aR (fun _ _ h => h) (fun _ h => h.elim) ?aF ?aB ?aS ?aL ?_
         (case aR => exact zD HO321)
         (case aB => exact (zB_ HB))
         (case aF => exact (fun k_ hk => ⟨Kd.fresh' (rX (zR_ HO_4)) k_ hk, Kd.fresh' (rX (zR_ HO_317001)) k_ hk, Kd.fresh' (rX (zR_ HO321)) k_ hk⟩))
         (case aO => exact (zmR HO_317000 (fun _ hk => ⟨hk.1.1, ⟨hk.1.2, hk.2⟩⟩)))
         (case aS => exact (bZ (zB_ HB)))
         (case aL => have := LMc38.out; omega)
         intro v323 w46 ho hb hg hat
         rw [← Ny322.out] at ho
         replace HO_4 := A0_ (Kd.R_after (ok := (fun k_ => some k_ ≠ (.slice Ao29 t313.length co29 : Value).ownBlock ∧ some k_ ≠ (.slice Ao47 y319.length co47 : Value).ownBlock)) (zmR HO_4 (fun _ hk => ⟨⟨hk.1.2, hk.2⟩, hk.1.1⟩)) hg hat)
         replace HO_317001 := A0_ (Kd.R_after (ok := (fun k_ => some k_ ≠ (.slice (some ad318) t307.length co43 : Value).ownBlock ∧ some k_ ≠ (.slice Ao47 y319.length co47 : Value).ownBlock)) (zmR HO_317001 (fun _ hk => ⟨⟨hk.1.1, hk.2⟩, hk.1.2⟩)) hg hat)
         replace BK301 := A0_ (blk_grown (g := gb301) (o := .cells #[.slice (some ad317) l0_0.length c0_0, .slice A0_1 l0_1.length c0_1] 25 (0, 0)) (zK_ BK301) hg (Kd.R_ne HO_317000.out BK301.out (by decide)))
         replace BK302 := A0_ (blk_grown (g := gb302) (o := .cells #[.slice none 0 0, .slice none 0 0] 25 (0, 0)) (zK_ BK302) hg (Kd.R_ne HO_317000.out BK302.out (by decide)))
         replace BK316 := A0_ (blk_grown (g := gb316) (o := .cells #[u317000, .slice Ao29 t313.length co29] 25 (0, 0)) (zK_ BK316) hg (Kd.R_ne HO_317000.out BK316.out (by decide)))
         replace HO321 := A0_ (Kd.R_after (ok := (fun k_ => some k_ ≠ (.slice (some ad318) t307.length co43 : Value).ownBlock ∧ some k_ ≠ (.slice Ao29 t313.length co29 : Value).ownBlock)) (zmR HO321 (fun _ hk => ⟨⟨hk.1.1.2, hk.2⟩, hk.1.2⟩)) hg hat)
         replace HB := A0_ (hb)
         have HO324 := A0_ (ho)
         clear HO_317000 ho hb hg hat; obtain ⟨Ao48, co48, eo48⟩ := rS HO324.out
         (first | subst eo48 | (injection eo48 with f1_ f2_ f3_; have f4_ := f1_.symm; have f5_ := f3_.symm; clear f1_ f2_ f3_; subst f4_; subst f5_))
         refine hK.out _ _ ?_
         clear hK K
         refine norm_ (a' := ?_) ?_ ?_
         rotate_left
         ·show Act.put _ (some 48) _ = _
          simp only [Act.put, List.setIfInBounds_toArray, List.set_cons_zero, List.set_cons_succ, i64_w, i32_w]
          rfl
         refine zP 16 (some 49) #[true,true,true,true,true,true,true,true,true,true,true,true,true,true,true,true,true,false] ?_
         refine last_ (i := 17) (N := none) #[true, true, true, true, true, true, true, true, true, true, true, true, true, true, true, true, true, true] rfl rfl (one_of HT_.out (by kernel_rfl)) (by decide) (fun K hK => ?_)
         have hs49 : w46.cell? ⟨gb316, 0, none⟩ = some (u317000) := (kC BK316.out 0).trans rfl
         have hfs49 := kF BK316.out 0; have hns49_0 := NB301_316.out; have hns49_1 := NB302_316.out; have hms49_0 := NB316_301.out; have hms49_1 := NB316_302.out
         refine skip_ (w1 := ?_) (by rfl) rfl ?_ ?_
         rotate_left
         ·go_simp
          rfl
         refine hK.out _ _ ?_
         clear hK K
         refine done_ (done_of HT_.out (by kernel_rfl)) ?_
         try go_wp2
         go_roundg k2
         case measure => have := HJ1.out; have := HK2.out; omega
         case rel => exact ⟨(wrap64 (x6_2 + 1)), (y322), (.slice Ao48 y322.length co48), zt, H', ⟨by have := HJ1.out; have := HK2.out; omega⟩, ⟨by (with_reducible repeat (first | apply rA | apply rN | apply rD)); exact rM (rF (p := ⟨gb316, 0, none⟩) (rY HO_4.out BK316.out (by decide)) (fun _ hk => hk.2) (.slice Ao48 y322.length co48)) (fun _ hk => ⟨hk.1.2, hk.1.1.1⟩)⟩, ⟨by (with_reducible repeat (first | apply rA | apply rN | apply rD)); exact rM (rF (p := ⟨gb316, 0, none⟩) (rY HO324.out BK316.out (by decide)) (fun _ hk => hk.2) (.slice Ao48 y322.length co48)) (fun _ hk => ⟨hk.1.1, hk.1.2.1⟩)⟩, ⟨by (with_reducible repeat (first | apply rA | apply rN | apply rD)); exact rM (rF (p := ⟨gb316, 0, none⟩) (rY HO_317001.out BK316.out (by decide)) (fun _ hk => hk.2) (.slice Ao48 y322.length co48)) (fun _ hk => ⟨hk.1.1.1, hk.1.2⟩)⟩, ⟨by (with_reducible repeat (first | refine kN ?_ _ | refine kD ?_ | refine kA ?_ _)); refine blk_far ?_ NB301_316.out _; (with_reducible repeat (first | refine kN ?_ _ | refine kD ?_ | refine kA ?_ _)); exact BK301.out⟩, ⟨by (with_reducible repeat (first | refine kN ?_ _ | refine kD ?_ | refine kA ?_ _)); refine blk_far ?_ NB302_316.out _; (with_reducible repeat (first | refine kN ?_ _ | refine kD ?_ | refine kA ?_ _)); exact BK302.out⟩, ⟨by (with_reducible repeat (first | refine kN ?_ _ | refine kD ?_ | refine kA ?_ _)); refine blk_put (cs := #[u317000, .slice Ao29 t313.length co29]) ?_ 0 _ rfl; (with_reducible repeat (first | refine kN ?_ _ | refine kD ?_ | refine kA ?_ _)); exact BK316.out⟩, ⟨zB_ HB⟩⟩
        rw [if_neg c38] at H
        exact absurd H (by simp)
       rw [if_neg c37] at H
       exact absurd H (by simp)
      rw [if_neg c36] at H
      exact absurd H (by simp)
     rw [if_neg c35] at H; have c35b0 := dF c35; clear c35; simp only [Option.some.injEq, Prod.mk.injEq] at H; obtain ⟨rfl, rfl, rfl⟩ := H; have hnb50 := NB301_302.out; have hnc50 := NB302_301.out; have hnb51 := NB301_316.out; have hnc51 := NB316_301.out; have hcz52_0 := zc0 BK301; have hcz52_1 := zc1 BK301; have hfz52_0 := kF BK301.out 0; have hfz52_1 := kF BK301.out 1; have hnb53 := NB316_302.out; have hnc53 := NB302_316.out; have hcz54_0 := zc0 BK316; have hcz54_1 := zc1 BK316; have hfz54_0 := kF BK316.out 0; have hfz54_1 := kF BK316.out 1; obtain ⟨Ao55, co55, eo55⟩ := rS HO_317000.out; subst eo55; have hcz56_0 := zc0 BK302; have hcz56_1 := zc1 BK302; have hfz56_0 := kF BK302.out 0; have hfz56_1 := kF BK302.out 1
     go_wp2
     refine bodyPost_ret (results_ct rfl _ _ gb302 25 #[.slice Ao55 x317000_2.length co55, .slice Ao29 t313.length co29] (0, 0) _ rfl (by (with_reducible repeat (first | refine kN ?_ _ | refine kD ?_ | refine kA ?_ _)); refine blk_put (cs := #[.slice Ao55 x317000_2.length co55, .slice none 0 0]) ?_ 1 _ rfl; (with_reducible repeat (first | refine kN ?_ _ | refine kD ?_ | refine kA ?_ _)); refine blk_put (cs := #[.slice none 0 0, .slice none 0 0]) ?_ 0 _ rfl; (with_reducible repeat (first | refine kN ?_ _ | refine kD ?_ | refine kA ?_ _)); exact BK302.out) Tryz.underlying25 rfl (by kernel_rfl)) rfl ?_
     exact ⟨_, _, by first | rfl | (simp [*] <;> rfl), by (with_reducible repeat (first | apply rA | apply rN | apply rD)); exact rM (rF (p := ⟨gb302, 1, none⟩) (rF (p := ⟨gb302, 0, none⟩) (rY HO_317000.out BK302.out (by decide)) (fun _ hk => hk.2) (.slice Ao55 x317000_2.length co55)) (fun _ hk => hk.2) (.slice Ao29 t313.length co29)) (fun _ hk => hk.1.2), by (with_reducible repeat (first | apply rA | apply rN | apply rD)); exact rM (rF (p := ⟨gb302, 1, none⟩) (rF (p := ⟨gb302, 0, none⟩) (rY HO_317001.out BK302.out (by decide)) (fun _ hk => hk.2) (.slice Ao55 x317000_2.length co55)) (fun _ hk => hk.2) (.slice Ao29 t313.length co29)) (fun _ hk => hk.1.2), zB_ HB⟩

end Go.Proofs.YtjebcgbmlbemcaaGreatDoor.PFnExecuteTutte
