-- Made by a program of this session (wip/tools) out of the loaded program; not trusted: Lean checks it.
import Derived.Test.YtmcgkckdnelcdaaPFnExactCoverConjx0
-- packed
namespace Go.Proofs.Ytmcgkckdnelcdaa.PFnExactCoverConj
open Go.RowKit Go.Proofs.YtmcgkckdnelcdaaW.PrintWords Go.Proofs.YtmcgkckdnelcdaaW.PrintLast Go.Proofs.YtmcgkckdnelcdaaW.PrintMore
attribute [local go_sem] max2_int min2_int max_two min_two max_three min_three max_four min_four   -- for this text's walks alone
set_option linter.unusedVariables false
set_option linter.unusedSimpArgs false

/-! ### spec_l1Cycles: function 72 -/
mutual
def spec_l1Cycles.l0 : Nat → List Int → List (List Int) → List Bool → Int → Option ((List (List Int)))
  | 0, _, _, _, _ => none
  | k + 1, x0, x3, x4, x5 => if x5 < (x0.length : Int) then (if 0 ≤ x5 then (if x5 < (x4.length : Int) then (if rdOf false x4 x5 = true then (spec_l1Cycles.l0 k x0 x3 x4 (wrap64 (x5 + 1))) else (spec_l1Cycles.l1 k x0 x3 x4 x5 (([] : List Int)) x5)) else (none)) else (none)) else (some x3)
def spec_l1Cycles.l1 : Nat → List Int → List (List Int) → List Bool → Int → List Int → Int → Option ((List (List Int)))
  | 0, _, _, _, _, _, _ => none
  | k + 1, x0, x3, x4, x5, x6, x7 => if 0 ≤ x7 then (if x7 < (x4.length : Int) then (if rdOf false x4 x7 = true then (if x3.length < 5864062014805 then (spec_l1Cycles.l0 k x0 (x3 ++ [x6]) x4 (wrap64 (x5 + 1))) else (none)) else (if x6.length < 17592186044416 then (if x7 < (x0.length : Int) then (spec_l1Cycles.l1 k x0 x3 (x4.set (x7 : Int).toNat true) x5 (x6 ++ [x7]) (rd x0 x7)) else (none)) else (none))) else (none)) else (none)
end
def spec_l1Cycles.f (k : Nat) (l0 : List Int) : Option ((List (List Int))) := if 0 ≤ (l0.length : Int) then (if ((l0.length : Int) : Int).toNat ≤ 281474976710656 then (spec_l1Cycles.l0 k l0 (([] : List (List Int))) (List.replicate ((l0.length : Int) : Int).toNat false) 0) else (none)) else (none)
set_option maxHeartbeats 8000000 in
set_option maxRecDepth 100000 in
theorem spec_l1Cycles.calls (k : Nat) (A0 : Option Addr) (c0 : Nat) (l0 : List Int) (r : List (List Int)) (w : World) (hr0 : Kd.C (Kd.int .i64) w A0 l0.length l0) (hc0 : l0.length ≤ c0) (h : spec_l1Cycles.f k l0 = some r) :
    Calls Try.prog 72 #[.slice A0 l0.length c0] w fun e w' => ∃ v0_ : Value, e = .returned (v0_) ∧ Kd.S (Kd.slice 3 (Kd.int .i64)) 22 w' w.heap.size (fun _ => True) v0_ r ∧ Below w.heap.size w w' := by
 have HR0 := A0_ hr0; have HC0 := A0_ hc0; clear hr0 hc0
 have HB := A0_ (Below.refl w.heap.size w)
 have H : (if 0 ≤ (l0.length : Int) then (if ((l0.length : Int) : Int).toNat ≤ 281474976710656 then (spec_l1Cycles.l0 k l0 (([] : List (List Int))) (List.replicate ((l0.length : Int) : Int).toNat false) 0) else (none)) else (none)) = some r := h
 clear h
 obtain ⟨y198, hy198⟩ : ∃ y_ : List (List Int), y_ = (([] : List (List Int))) := ⟨_, rfl⟩
 replace H : (if 0 ≤ (l0.length : Int) then (if ((l0.length : Int) : Int).toNat ≤ 281474976710656 then (spec_l1Cycles.l0 k l0 y198 (List.replicate ((l0.length : Int) : Int).toNat false) 0) else (none)) else (none)) = some r := zH hy198 H
 have Ny198 := A0_ hy198; clear hy198
 by_cases c2 : 0 ≤ (l0.length : Int)
 ·rw [if_pos c2] at H
  have c2b0 := eq_true c2; have c2b1 := dT c2; clear c2
  by_cases c3 : ((l0.length : Int) : Int).toNat ≤ 281474976710656
  ·rw [if_pos c3] at H
   have c3b0 := eq_true c3; have c3b1 := dT c3; clear c3
   obtain ⟨y201, hy201⟩ : ∃ y_ : List Bool, y_ = (List.replicate ((l0.length : Int) : Int).toNat false) := ⟨_, rfl⟩
   replace H : (spec_l1Cycles.l0 k l0 y198 y201 0) = some r := zH hy201 H
   have Ny201 := A0_ hy201; clear hy201; have H' := A0_ H; clear H
   go_enter Try.func72, Try.ntmps72
   go_wp2_with (first | ((with_reducible refine gD (N := 8) rfl ?_); refine Kd.S_lit (Kd.slice 3 (Kd.int .i64)) _ 22 ?hg (N := 8) ?hd (xs := ([] : List (List Int))) (inner := []) (ok := fun _ => True) (okp := fun _ => True) ?hr ?hp (fun _ hk => hk) trivial (Below.refl _ _) (Nat.le_refl _) (by simp) ?_; (case hd => rfl); (case hg => rfl); (case hr => first | (go_simp; done) | (go_simp; rfl)); (case hp => exact (Reps.none _ _)); intro v199 w4 ho5 hb hg_ hnew_; clear hg_ hnew_; (first | rw [← Ny198.out] at ho5 | (simp only [Int.reduceToNat] at ho5; rw [← Ny198.out] at ho5)); have HO200 := A0_ (Kd.S_lower ho5 (bZ (zB_ HB))); replace HB := zB HB hb; clear hb ho5) | ((with_reducible refine gD (N := 11) rfl ?_); refine Kd.R_make Kd.bool _ 4 rfl (N := 11) rfl 75 _ _ rfl (l0.length : Int) rfl rfl Try.underlying75 (.bool false) 1 info4 rfl (by decide) (by omega) false (ok := fun _ => True) (okp := fun _ => True) rfl (fun _ hk => hk) trivial (zd) (Nat.le_trans (Nat.mul_le_mul_right _ (zd : (l0.length : Int).toNat ≤ 281474976710656)) (by omega)) (Below.refl _ _) (Nat.le_refl _) ?_; intro v202 w6 ho7 hb hg_ hnew_; clear hg_ hnew_; (first | rw [← Ny201.out] at ho7 | (simp only [Int.reduceToNat] at ho7; rw [← Ny201.out] at ho7)); replace HO200 := zS HO200 hb; have HO203 := A0_ (rL ho7 (bZ (zB_ HB))); replace HB := zB HB hb; clear hb ho7))
   go_loopg [3, 5] k (fun kq v3 v5 w' => ∃ (x3_1 : List (List Int)) (x4_1 : List Bool) (x5_1 : Int), v5 = .int .i64 x5_1 ∧ Aside0 (spec_l1Cycles.l0 kq l0 x3_1 x4_1 x5_1 = some r) ∧ Aside0 (kq ≤ k) ∧ Aside0 (Kd.S (Kd.slice 3 (Kd.int .i64)) 22 w' w.heap.size (fun _ => True) v3 x3_1) ∧ Aside0 (Kd.R Kd.bool 4 w' w.heap.size (fun _ => True) v202 x4_1) ∧ Aside0 (Below w.heap.size w w'))
   case atStart => exact ⟨(y198), (y201), (0), zt, H', ⟨Nat.le_refl _⟩, ⟨zS_ HO200⟩, ⟨zR_ HO203⟩, ⟨zB_ HB⟩⟩
   case round =>
    clear H'; (try clear c2); (try clear c2b0); (try clear c2b1); (try clear p2); (try clear c3); (try clear c3b0); (try clear c3b1); (try clear c7); obtain ⟨x3_1, x4_1, x5_1, rfl, HA, HK1, HO_3, HO_4, HB⟩ := hrel
    cases gk with
    | zero => exact absurd HA.out (by simp [spec_l1Cycles.l0])
    | succ k1 =>
     have H := HA.out; clear HA; simp only [spec_l1Cycles.l0] at H
     by_cases c8 : x5_1 < (l0.length : Int)
     ·rw [if_pos c8] at H
      have c8b0 := dT c8; clear c8
      by_cases c9 : 0 ≤ x5_1
      ·rw [if_pos c9] at H
       have c9b0 := dT c9; clear c9
       by_cases c10 : x5_1 < (x4_1.length : Int)
       ·rw [if_pos c10] at H
        have c10b0 := dT c10; clear c10
        obtain ⟨bq11, hbq11⟩ : ∃ b_ : Bool, b_ = (rdOf false x4_1 x5_1) := ⟨_, rfl⟩
        replace H : (if bq11 = true then (spec_l1Cycles.l0 k1 l0 x3_1 x4_1 (wrap64 (x5_1 + 1))) else (spec_l1Cycles.l1 k1 l0 x3_1 x4_1 x5_1 (([] : List Int)) x5_1)) = some r := by rw [← hbq11] at H; exact H
        have Nbq11 := A0_ hbq11; clear hbq11
        by_cases c12 : bq11 = true
        ·subst c12
         rw [if_pos rfl] at H; have H' := A0_ H; clear H; obtain ⟨Ao13, co13, eo13⟩ := rS HO_4.out; subst eo13
         have p204 : 0 ≤ (x5_1 : Int) := zd
         have q204 : x5_1 < (x4_1.length : Int) := zd
         obtain ⟨ad204, e204, hx204_0⟩ := Kd.at_bool (rR HO_4.out).2.2 x5_1 p204 q204
         (try rw [← Nbq11.out] at hx204_0)
         cases e204
         replace p204 := eq_true p204; replace q204 := eq_true q204
         go_wp2
         go_roundg k1
         case measure => have := HK1.out; omega
         case rel => exact ⟨(x3_1), (x4_1), (wrap64 (x5_1 + 1)), zt, H', ⟨by have := HK1.out; omega⟩, ⟨zS_ HO_3⟩, ⟨zR_ HO_4⟩, ⟨zB_ HB⟩⟩
        replace c12 := Bool.eq_false_iff.mpr c12; subst c12
        rw [if_neg (show ¬ (false = true) by decide)] at H
        obtain ⟨y205, hy205⟩ : ∃ y_ : List Int, y_ = (([] : List Int)) := ⟨_, rfl⟩
        replace H : (spec_l1Cycles.l1 k1 l0 x3_1 x4_1 x5_1 y205 x5_1) = some r := zH hy205 H
        have Ny205 := A0_ hy205; clear hy205; have H' := A0_ H; clear H; obtain ⟨Ao14, co14, eo14⟩ := rS HO_4.out; subst eo14
        have p204 : 0 ≤ (x5_1 : Int) := zd
        have q204 : x5_1 < (x4_1.length : Int) := zd
        obtain ⟨ad204, e204, hx204_0⟩ := Kd.at_bool (rR HO_4.out).2.2 x5_1 p204 q204
        (try rw [← Nbq11.out] at hx204_0)
        cases e204
        replace p204 := eq_true p204; replace q204 := eq_true q204
        go_wp2_with (first | ((with_reducible refine gD (N := 22) rfl ?_); refine Kd.R_lit (Kd.int .i64) _ 3 ?hg (N := 22) ?hd (xs := ([] : List Int)) (inner := []) (ok := fun _ => True) (okp := fun _ => True) ?hr ?hp (fun _ hk => hk) trivial (Below.refl _ _) (Nat.le_refl _) (by simp) ?_; (case hd => rfl); (case hg => rfl); (case hr => first | (go_simp; done) | (go_simp; rfl)); (case hp => exact (Reps.none _ _)); intro v206 w15 ho16 hb hg_ hnew_; clear hg_ hnew_; (first | rw [← Ny205.out] at ho16 | (simp only [Int.reduceToNat] at ho16; rw [← Ny205.out] at ho16)); replace HO_3 := A0_ (Kd.S_elder' (zS_ HO_3) (Kd.R_base ho16) hb); replace HO_4 := zR HO_4 hb; have HO207 := A0_ (rL ho16 (bZ (zB_ HB))); replace HB := zB HB hb; clear hb ho16))
        (try generalize Value.pointer (some (ad204.add (x5_1 : Int).toNat)) = pz_)
        go_loopg [6, 7] k1 (fun kq v6 v7 w' => ∃ (x4_2 : List Bool) (x6_2 : List Int) (x7_2 : Int), v7 = .int .i64 x7_2 ∧ Aside0 (spec_l1Cycles.l1 kq l0 x3_1 x4_2 x5_1 x6_2 x7_2 = some r) ∧ Aside0 (kq ≤ k1) ∧ Aside0 (Kd.S (Kd.slice 3 (Kd.int .i64)) 22 w' w.heap.size (fun k_ => some k_ ≠ (v6 : Value).ownBlock) u3 x3_1) ∧ Aside0 (Kd.R Kd.bool 4 w' w.heap.size (fun _ => True) (.slice (some ad204) x4_1.length co14) x4_2) ∧ Aside0 (Kd.R (Kd.int .i64) 3 w' w.heap.size (fun _ => True) v6 x6_2) ∧ Aside0 (Below w.heap.size w w'))
        case atStart => exact ⟨(x4_1), (y205), (x5_1), zt, H', ⟨Nat.le_refl _⟩, ⟨zmS HO_3 (fun _ hk => hk.2)⟩, ⟨zR_ HO_4⟩, ⟨zR_ HO207⟩, ⟨zB_ HB⟩⟩
        case round =>
         clear H'; (try clear c1); (try clear q1); (try clear c2); (try clear c2b0); (try clear c2b1); (try clear p2); (try clear q2); (try clear hx2); (try clear c3); (try clear c3b0); (try clear c3b1); (try clear p6); (try clear c7); (try clear c8); (try clear c8b0); (try clear c9); (try clear c9b0); (try clear c10); (try clear c10b0); (try clear q11); (try clear c12); (try clear hx204_0); (try clear p2); (try clear p204); (try clear q204); obtain ⟨x4_2, x6_2, x7_2, rfl, HA, HK2, HO_3, HO_4, HO_6, HB⟩ := hrel; have hl4_2 := (rR HO_4.out).1; rw [hl4_2] at HO_4; (try simp only [hl4_2]); (try simp only [hl4_2] at HO_3); (try simp only [hl4_2] at HO_6)
         cases gk with
         | zero => exact absurd HA.out (by simp [spec_l1Cycles.l1])
         | succ k2 =>
          have H := HA.out; clear HA; simp only [spec_l1Cycles.l1] at H
          by_cases c17 : 0 ≤ x7_2
          ·rw [if_pos c17] at H
           have c17b0 := dT c17; clear c17
           by_cases c18 : x7_2 < (x4_2.length : Int)
           ·rw [if_pos c18] at H
            have c18b0 := dT c18; (try simp only [hl4_2] at c18b0); clear c18
            obtain ⟨bq19, hbq19⟩ : ∃ b_ : Bool, b_ = (rdOf false x4_2 x7_2) := ⟨_, rfl⟩
            replace H : (if bq19 = true then (if x3_1.length < 5864062014805 then (spec_l1Cycles.l0 k2 l0 (x3_1 ++ [x6_2]) x4_2 (wrap64 (x5_1 + 1))) else (none)) else (if x6_2.length < 17592186044416 then (if x7_2 < (l0.length : Int) then (spec_l1Cycles.l1 k2 l0 x3_1 (x4_2.set (x7_2 : Int).toNat true) x5_1 (x6_2 ++ [x7_2]) (rd l0 x7_2)) else (none)) else (none))) = some r := by rw [← hbq19] at H; exact H
            have Nbq19 := A0_ hbq19; clear hbq19
            by_cases c20 : bq19 = true
            ·subst c20
             rw [if_pos rfl] at H
             by_cases c21 : x3_1.length < 5864062014805
             ·rw [if_pos c21] at H
              have LMc21 := A0_ c21; clear c21
              obtain ⟨y209, hy209⟩ : ∃ y_ : List (List Int), y_ = (x3_1 ++ [x6_2]) := ⟨_, rfl⟩
              replace H : (spec_l1Cycles.l0 k2 l0 y209 x4_2 (wrap64 (x5_1 + 1))) = some r := zH hy209 H
              have Ny209 := A0_ hy209; clear hy209; have H' := A0_ H; clear H
              have p208 : 0 ≤ (x7_2 : Int) := zd
              have q208 : x7_2 < (x4_2.length : Int) := zd
              obtain ⟨ad208, e208, hx208_0⟩ := Kd.at_bool (rR HO_4.out).2.2 x7_2 p208 q208
              (try rw [← Nbq11.out] at hx208_0)
              (try rw [← Nbq19.out] at hx208_0)
              obtain rfl : ad204 = ad208 := (by injection e208)
              replace p208 := eq_true p208; replace q208 := eq_true q208; obtain ⟨Ao23, co23, eo23⟩ := rS HO_6.out; subst eo23
              go_wp2_with (first | ((with_reducible refine gB (b := .append) (xs := #[.tmp 40, .tmp 42]) rfl ?_); at_builtin; refine Kd.S_append (Kd.slice 3 (Kd.int .i64)) (w0 := w) w.heap.size rfl (.tmp 40) (.tmp 42) 25 22 (.slice none 0 0) 24 rfl Try.underlying25 info22 rfl (by decide) (by omega) u3 x3_1 x6_2 [.slice Ao23 x6_2.length co23] (fun _ => True) (fun k_ => some k_ = (.slice Ao23 x6_2.length co23 : Value).ownBlock) rfl rfl ?aP (fun k_ hk_ => ((rM (ok' := fun k_ => ((fun _ => True)) k_ ∧ some k_ ≠ (u3 : Value).ownBlock) (Kd.R_apart' (HO_6.out) (Kd.S_typed HO_3.out) (by decide)) (fun k_ hk => ⟨trivial, hk.2⟩))).1 k_ hk_.symm) ?aF ?aO ?aB ?aS ?aL ?_; (case aP => exact Kd.M_row (rM (Kd.R_tight rfl (rM (ok' := fun k_ => ((fun _ => True)) k_ ∧ some k_ ≠ (u3 : Value).ownBlock) (Kd.R_apart' (HO_6.out) (Kd.S_typed HO_3.out) (by decide)) (fun k_ hk => ⟨trivial, hk.2⟩))) (fun _ h_ => h_))); (case aB => exact (zB_ HB)); (case aF => exact (fun _ _ => trivial)); (case aO => exact (zmS HO_3 (fun k_ hk => ⟨trivial, fun e_ => hk e_⟩))); (case aS => exact (bZ (zB_ HB))); (case aL => have := LMc21.out; omega); intro v210 w22 ho hb hg hat; rw [← Ny209.out] at ho; replace HO_4 := A0_ (Kd.R_over' (zR_ HO_4) (Kd.S_typed (zS_ HO_3)) (by decide) hg); replace HB := A0_ (hb); have HO211 := A0_ (ho); clear HO_3 HO_6 ho hb hg hat))
              (try simp only [← hl4_2])
              go_roundg k2
              case measure => have := HK1.out; have := HK2.out; omega
              case rel => exact ⟨(y209), (x4_2), (wrap64 (x5_1 + 1)), zt, H', ⟨by have := HK1.out; have := HK2.out; omega⟩, ⟨by (try simp only [hl4_2]); (with_reducible repeat (first | apply sA | apply sN | apply sD)); exact HO211.out⟩, ⟨by (try simp only [hl4_2]); (with_reducible repeat (first | apply rA | apply rN | apply rD)); exact HO_4.out⟩, ⟨zB_ HB⟩⟩
             rw [if_neg c21] at H
             exact absurd H (by simp)
            replace c20 := Bool.eq_false_iff.mpr c20; subst c20
            rw [if_neg (show ¬ (false = true) by decide)] at H
            obtain ⟨y212, hy212⟩ : ∃ y_ : List Bool, y_ = (x4_2.set (x7_2 : Int).toNat true) := ⟨_, rfl⟩
            replace H : (if x6_2.length < 17592186044416 then (if x7_2 < (l0.length : Int) then (spec_l1Cycles.l1 k2 l0 x3_1 y212 x5_1 (x6_2 ++ [x7_2]) (rd l0 x7_2)) else (none)) else (none)) = some r := zH hy212 H
            have Ny212 := A0_ hy212; clear hy212
            by_cases c25 : x6_2.length < 17592186044416
            ·rw [if_pos c25] at H
             have LMc25 := A0_ c25; clear c25
             obtain ⟨y213, hy213⟩ : ∃ y_ : List Int, y_ = (x6_2 ++ [x7_2]) := ⟨_, rfl⟩
             replace H : (if x7_2 < (l0.length : Int) then (spec_l1Cycles.l1 k2 l0 x3_1 y212 x5_1 y213 (rd l0 x7_2)) else (none)) = some r := zH hy213 H
             have Ny213 := A0_ hy213; clear hy213
             by_cases c26 : x7_2 < (l0.length : Int)
             ·rw [if_pos c26] at H
              have c26b0 := dT c26; (try simp only [hl4_2] at c26b0); clear c26; have H' := A0_ H; clear H
              have p208 : 0 ≤ (x7_2 : Int) := zd
              have q208 : x7_2 < (x4_2.length : Int) := zd
              obtain ⟨ad208, e208, hx208_0⟩ := Kd.at_bool (rR HO_4.out).2.2 x7_2 p208 q208
              (try rw [← Nbq11.out] at hx208_0)
              (try rw [← Nbq19.out] at hx208_0)
              obtain rfl : ad204 = ad208 := (by injection e208)
              replace p208 := eq_true p208; replace q208 := eq_true q208
              have p24 : 0 ≤ (x7_2 : Int) := zd
              have q24 : (x7_2 : Int) < ((x4_2.length : Int) : Int) := zd
              obtain ⟨go24, co24, eo24, gb24, gl24, cl24, HG24⟩ := Kd.R_form HO_4.out (by omega)
              (first | cases eo24 | (injection eo24 with ea_ en_ ec_; (first | subst ea_ | (injection ea_ with ea_; subst ea_)); subst ec_; clear en_))
              have GB24 := A0_ gb24; have GG24 := A0_ HG24; clear gb24 gl24 HG24
              (first | simp only [add_plain] at hx204_0 | skip)
              (first | simp only [add_plain] at hx208_0 | skip)
              obtain ⟨hx24_0, hf24_0⟩ := Kd.R_celln false HO_4.out (x7_2 : Int) p24 q24
              replace p24 := eq_true p24; replace q24 := eq_true q24
              have HP27 := Kd.R_putg HO_4.out (x7_2 : Int) true
              go_wp2_with (first | ((with_reducible refine gS (t := 4) (p := 35) rfl ?_); refine store_event (t := 4) (p := 35) (v := ?vo_w28) (w1 := (wr.setCell ⟨go24, (x7_2 : Int).toNat, none⟩ (.bool true))) ?hg ?ho ?hn ?hr ?_; (case ho => rfl); (case hg => rfl); (case hn => rfl); (case hr => first | (go_simp; done) | (go_simp; rfl)); intro w28 hw; have hg : wr.grownBy w28 (some go24) := (by rw [hw]; exact HP27.2); have hp_ : Kd.R Kd.bool 4 w28 w.heap.size (fun _ => True) (.slice (some ⟨go24, 0, none⟩) x4_2.length co14) y212 := (by rw [hw, Ny212.out]; exact HP27.1); clear HP27; replace HO_3 := A0_ (Kd.S_over' (v := (.slice (some ⟨go24, 0, none⟩) x4_2.length co14)) (zS_ HO_3) (Kd.R_typed HO_4.out) (by decide) hg); replace HO_6 := A0_ (Kd.R_over' (v := (.slice (some ⟨go24, 0, none⟩) x4_2.length co14)) (zR_ HO_6) (Kd.R_typed HO_4.out) (by decide) hg); replace HO_4 := A0_ (hp_); replace HB := A0_ ((by rw [hw]; exact bS (HB.out) GB24.out : Below w.heap.size w w28)); clear hg hw hp_) | ((with_reducible refine gB (b := .append) (xs := #[.tmp 36, .tmp 38]) rfl ?_); at_builtin; refine Kd.R_append (Kd.int .i64) (w0 := w) w.heap.size rfl (.tmp 36) (.tmp 38) 22 3 (.int .i64 0) 8 rfl Try.underlying22 info3 rfl (by decide) (by omega) u6 x6_2 x7_2 [.int .i64 x7_2] (fun _ => True) (fun _ => False) rfl rfl ?aP (fun _ hk => hk.elim) ?aF ?aO ?aB ?aS ?aL ?_; (case aP => exact rfl); (case aB => exact (zB_ HB)); (case aF => exact (fun _ _ => trivial)); (case aO => exact (zR_ HO_6)); (case aS => exact (bZ (zB_ HB))); (case aL => have := LMc25.out; omega); intro v214 w29 ho hb hg hat; rw [← Ny213.out] at ho; replace HO_3 := A0_ (Kd.S_after (ok := (fun _ => True)) (zmS HO_3 (fun _ hk => ⟨trivial, hk⟩)) hg hat); replace HO_4 := A0_ (Kd.R_over' (zR_ HO_4) (Kd.R_typed (zR_ HO_6)) (by decide) hg); replace HB := A0_ (hb); have HO215 := A0_ (ho); clear HO_6 ho hb hg hat; have p216 : 0 ≤ (x7_2 : Int) := zd; have q216 : x7_2 < (l0.length : Int) := zd; obtain ⟨ad216, e216, hx216_0⟩ := tI HR0.out x7_2 p216 q216; cases e216; try replace hx216_0 := (HB.out.cell (wL w _ hx216_0)).trans hx216_0; replace p216 := eq_true p216; replace q216 := eq_true q216))
              (try simp only [← hl4_2])
              go_roundg k2
              case measure => have := HK1.out; have := HK2.out; omega
              case rel => exact ⟨(y212), (y213), (rd l0 x7_2), zt, H', ⟨by have := HK1.out; have := HK2.out; omega⟩, ⟨by (try simp only [hl4_2]); (with_reducible repeat (first | apply sA | apply sN | apply sD)); exact sM HO_3.out (fun _ hk => hk.2)⟩, ⟨by (try simp only [hl4_2]); (with_reducible repeat (first | apply rA | apply rN | apply rD)); exact HO_4.out⟩, ⟨by (try simp only [hl4_2]); (with_reducible repeat (first | apply rA | apply rN | apply rD)); exact HO215.out⟩, ⟨zB_ HB⟩⟩
             rw [if_neg c26] at H
             exact absurd H (by simp)
            rw [if_neg c25] at H
            exact absurd H (by simp)
           rw [if_neg c18] at H
           exact absurd H (by simp)
          rw [if_neg c17] at H
          exact absurd H (by simp)
       rw [if_neg c10] at H
       exact absurd H (by simp)
      rw [if_neg c9] at H
      exact absurd H (by simp)
     rw [if_neg c8] at H; have c8b0 := dF c8; clear c8; obtain rfl := sI H
     go_wp2
     go_ret
     exact ⟨_, by first | rfl | (simp [*] <;> rfl), zS_ HO_3, zB_ HB⟩
  rw [if_neg c3] at H
  exact absurd H (by simp)
 rw [if_neg c2] at H
 exact absurd H (by simp)

/-! ### spec_l7Vertices: function 82 -/
mutual
def spec_l7Vertices.l0 : Nat → List Int → List (List Int) → Int → Option (List Int)
  | 0, _, _, _ => none
  | k + 1, x3, x4, x5 => if x5 < (x4.length : Int) then (spec_l7Vertices.l1 k x3 x4 x5 0) else (some x3)
def spec_l7Vertices.l1 : Nat → List Int → List (List Int) → Int → Int → Option (List Int)
  | 0, _, _, _, _ => none
  | k + 1, x3, x4, x5, x6 => if 0 ≤ x5 then (if x5 < (x4.length : Int) then (if x6 < ((rd_L1 x4 x5).length : Int) then (if 0 ≤ x6 then (if 0 ≤ (rd (rd_L1 x4 x5) x6) then (if (rd (rd_L1 x4 x5) x6) < (x3.length : Int) then (spec_l7Vertices.l1 k (x3.set ((rd (rd_L1 x4 x5) x6) : Int).toNat x5) x4 x5 (wrap64 (x6 + 1))) else (none)) else (none)) else (none)) else (spec_l7Vertices.l0 k x3 x4 (wrap64 (x5 + 1)))) else (none)) else (none)
end
def spec_l7Vertices.f (k : Nat) (l0 : List Int) : Option (List Int) := if 0 ≤ (l0.length : Int) then (if ((l0.length : Int) : Int).toNat ≤ 35184372088832 then ((spec_l1Cycles.f k l0).bind fun t220 => (spec_l7Vertices.l0 k (List.replicate ((l0.length : Int) : Int).toNat 0) t220 0)) else (none)) else (none)
set_option maxHeartbeats 8000000 in
set_option maxRecDepth 100000 in
theorem spec_l7Vertices.calls (k : Nat) (A0 : Option Addr) (c0 : Nat) (l0 : List Int) (r : List Int) (w : World) (hr0 : Kd.C (Kd.int .i64) w A0 l0.length l0) (hc0 : l0.length ≤ c0) (h : spec_l7Vertices.f k l0 = some r) :
    Calls Try.prog 82 #[.slice A0 l0.length c0] w fun e w' => ∃ v0_ : Value, e = .returned (v0_) ∧ Kd.R (Kd.int .i64) 3 w' w.heap.size (fun _ => True) v0_ r ∧ Below w.heap.size w w' := by
 have HR0 := A0_ hr0; have HC0 := A0_ hc0; clear hr0 hc0
 have HB := A0_ (Below.refl w.heap.size w)
 have H : (if 0 ≤ (l0.length : Int) then (if ((l0.length : Int) : Int).toNat ≤ 35184372088832 then ((spec_l1Cycles.f k l0).bind fun t220 => (spec_l7Vertices.l0 k (List.replicate ((l0.length : Int) : Int).toNat 0) t220 0)) else (none)) else (none)) = some r := h
 clear h
 by_cases c2 : 0 ≤ (l0.length : Int)
 ·rw [if_pos c2] at H
  have c2b0 := eq_true c2; have c2b1 := dT c2; clear c2
  by_cases c3 : ((l0.length : Int) : Int).toNat ≤ 35184372088832
  ·rw [if_pos c3] at H
   have c3b0 := eq_true c3; have c3b1 := dT c3; clear c3
   obtain ⟨y217, hy217⟩ : ∃ y_ : List Int, y_ = (List.replicate ((l0.length : Int) : Int).toNat 0) := ⟨_, rfl⟩
   replace H : ((spec_l1Cycles.f k l0).bind fun t220 => (spec_l7Vertices.l0 k y217 t220 0)) = some r := zH hy217 H
   have Ny217 := A0_ hy217; clear hy217; obtain ⟨t220, A4, H⟩ := zbind H; have H' := A0_ H; clear H
   go_enter Try.func82, Try.ntmps82
   go_wp2_with (first | ((with_reducible refine gD (N := 9) rfl ?_); refine Kd.R_make (Kd.int .i64) _ 3 rfl (N := 9) rfl 22 _ _ rfl (l0.length : Int) rfl rfl Try.underlying22 (.int .i64 0) 8 info3 rfl (by decide) (by omega) 0 (ok := fun _ => True) (okp := fun _ => True) rfl (fun _ hk => hk) trivial (zd) (Nat.le_trans (Nat.mul_le_mul_right _ (zd : (l0.length : Int).toNat ≤ 35184372088832)) (by omega)) (Below.refl _ _) (Nat.le_refl _) ?_; intro v218 w5 ho6 hb hg_ hnew_; clear hg_ hnew_; (first | rw [← Ny217.out] at ho6 | (simp only [Int.reduceToNat] at ho6; rw [← Ny217.out] at ho6)); have HO219 := A0_ (rL ho6 (bZ (zB_ HB))); replace HB := zB HB hb; clear hb ho6) | ((with_reducible refine gC (f := 72) rfl ?_); refine zJ (some 11) Try.func72 #[.slice A0 l0.length c0] ?_; (with_reducible refine (spec_l1Cycles.calls k _ _ l0 t220 _ ?side1 ?side2 A4.out).mono ?_); (case side1 => exact zC HR0 HB); (case side2 => exact HC0.out); rintro e w7 ⟨v221, rfl, ho0, hb⟩; refine ⟨_, rfl, ?_⟩; have HO222 := A0_ (Kd.S_lower (Kd.S_new' ho0 (rX (zR_ HO219))) (bZ (zB_ HB))); replace HO219 := zR HO219 hb; replace HB := zB HB hb; (try clear hb); (try clear ho0)))
   go_loopg [5] k (fun kq v5 w' => ∃ (x3_1 : List Int) (x5_1 : Int), v5 = .int .i64 x5_1 ∧ Aside0 (spec_l7Vertices.l0 kq x3_1 t220 x5_1 = some r) ∧ Aside0 (kq ≤ k) ∧ Aside0 (Kd.R (Kd.int .i64) 3 w' w.heap.size (fun _ => True) v218 x3_1) ∧ Aside0 (Kd.S (Kd.slice 3 (Kd.int .i64)) 22 w' w.heap.size (fun k_ => some k_ ≠ (v218 : Value).ownBlock) v221 t220) ∧ Aside0 (Below w.heap.size w w'))
   case atStart => exact ⟨(y217), (0), zt, H', ⟨Nat.le_refl _⟩, ⟨zR_ HO219⟩, ⟨zmS HO222 (fun _ hk => hk.2)⟩, ⟨zB_ HB⟩⟩
   case round =>
    clear H'; (try clear c2); (try clear c2b0); (try clear c2b1); (try clear p2); (try clear c3); (try clear c3b0); (try clear c3b1); (try clear c7); obtain ⟨x3_1, x5_1, rfl, HA, HK1, HO_3, HO_4, HB⟩ := hrel
    cases gk with
    | zero => exact absurd HA.out (by simp [spec_l7Vertices.l0])
    | succ k1 =>
     have H := HA.out; clear HA; simp only [spec_l7Vertices.l0] at H
     by_cases c8 : x5_1 < (t220.length : Int)
     ·rw [if_pos c8] at H
      have c8b0 := dT c8; clear c8; have H' := A0_ H; clear H; obtain ⟨Ao9, co9, eo9⟩ := Kd.S_slice HO_4.out; subst eo9
      go_wp2
      go_loopg [6] k1 (fun kq v6 w' => ∃ (x3_2 : List Int) (x6_2 : Int), v6 = .int .i64 x6_2 ∧ Aside0 (spec_l7Vertices.l1 kq x3_2 t220 x5_1 x6_2 = some r) ∧ Aside0 (kq ≤ k1) ∧ Aside0 (Kd.R (Kd.int .i64) 3 w' w.heap.size (fun _ => True) v218 x3_2) ∧ Aside0 (Kd.S (Kd.slice 3 (Kd.int .i64)) 22 w' w.heap.size (fun k_ => some k_ ≠ (v218 : Value).ownBlock) (.slice Ao9 t220.length co9) t220) ∧ Aside0 (Below w.heap.size w w'))
      case atStart => exact ⟨(x3_1), (0), zt, H', ⟨Nat.le_refl _⟩, ⟨zR_ HO_3⟩, ⟨zS_ HO_4⟩, ⟨zB_ HB⟩⟩
      case round =>
       clear H'; (try clear c2); (try clear c2b0); (try clear c2b1); (try clear p2); (try clear c3); (try clear c3b0); (try clear c3b1); (try clear c7); (try clear c8); (try clear c8b0); (try clear p2); obtain ⟨x3_2, x6_2, rfl, HA, HK2, HO_3, HO_4, HB⟩ := hrel
       cases gk with
       | zero => exact absurd HA.out (by simp [spec_l7Vertices.l1])
       | succ k2 =>
        have H := HA.out; clear HA; simp only [spec_l7Vertices.l1] at H
        by_cases c10 : 0 ≤ x5_1
        ·rw [if_pos c10] at H
         have c10b0 := dT c10; clear c10
         by_cases c11 : x5_1 < (t220.length : Int)
         ·rw [if_pos c11] at H
          have c11b0 := dT c11; clear c11
          by_cases c12 : x6_2 < ((rd_L1 t220 x5_1).length : Int)
          ·rw [if_pos c12] at H
           have c12b0 := dT c12; clear c12
           by_cases c13 : 0 ≤ x6_2
           ·rw [if_pos c13] at H
            have c13b0 := dT c13; clear c13
            by_cases c14 : 0 ≤ (rd (rd_L1 t220 x5_1) x6_2)
            ·rw [if_pos c14] at H
             have c14b0 := dT c14; clear c14
             by_cases c15 : (rd (rd_L1 t220 x5_1) x6_2) < (x3_2.length : Int)
             ·rw [if_pos c15] at H
              have c15b0 := dT c15; clear c15
              obtain ⟨y226, hy226⟩ : ∃ y_ : List Int, y_ = (x3_2.set ((rd (rd_L1 t220 x5_1) x6_2) : Int).toNat x5_1) := ⟨_, rfl⟩
              replace H : (spec_l7Vertices.l1 k2 y226 t220 x5_1 (wrap64 (x6_2 + 1))) = some r := zH hy226 H
              have Ny226 := A0_ hy226; clear hy226; have H' := A0_ H; clear H
              have p223 : 0 ≤ (x5_1 : Int) := zd
              have q223 : x5_1 < (t220.length : Int) := zd
              obtain ⟨ad223, A223_0, c223_0, e223, hx223_0, hl223_0, hi223_0⟩ := at_L1 (Kd.S_reads' HO_4.out).2.2 x5_1 p223 q223
              cases e223
              obtain ⟨ce223, hce223, hMe223, hcc223⟩ := Kd.S_get HO_4.out [] x5_1 p223 (by first | exact q223 | exact zd | (have e_ := (Kd.S_reads' HO_4.out).1; omega))
              obtain ⟨ve223_0, rfl, ge223_0⟩ := hMe223; have hv223_0 := hcc223 0 _ rfl
              rw [Nat.add_zero, show ((Kd.slice 3 (Kd.int .i64))).sz = 1 from rfl, Nat.mul_one] at hv223_0
              replace hv223_0 := sI (hv223_0.symm.trans hx223_0)
              rw [hv223_0] at ge223_0
              have HL223_0 := A0_ (show Kd.R (Kd.int .i64) 3 _ _ _ _ (rd_L1 t220 x5_1) from ge223_0)
              clear hv223_0 ge223_0 hcc223 hce223; have HR223_0 := A0_ hi223_0; have HC223_0 := A0_ hl223_0; clear hi223_0 hl223_0; replace p223 := eq_true p223; replace q223 := eq_true q223
              have p224 : 0 ≤ (x5_1 : Int) := zd
              have q224 : x5_1 < (t220.length : Int) := zd
              obtain ⟨ad224, A224_0, c224_0, e224, hx224_0, hl224_0, hi224_0⟩ := at_L1 (Kd.S_reads' HO_4.out).2.2 x5_1 p224 q224
              obtain rfl : ad223 = ad224 := (by injection e224)
              obtain ⟨ce224, hce224, hMe224, hcc224⟩ := Kd.S_get HO_4.out [] x5_1 p224 (by first | exact q224 | exact zd | (have e_ := (Kd.S_reads' HO_4.out).1; omega))
              obtain ⟨ve224_0, rfl, ge224_0⟩ := hMe224; have hv224_0 := hcc224 0 _ rfl
              rw [Nat.add_zero, show ((Kd.slice 3 (Kd.int .i64))).sz = 1 from rfl, Nat.mul_one] at hv224_0
              replace hv224_0 := sI (hv224_0.symm.trans hx224_0)
              rw [hv224_0] at ge224_0
              have HL224_0 := A0_ (show Kd.R (Kd.int .i64) 3 _ _ _ _ (rd_L1 t220 x5_1) from ge224_0)
              clear hv224_0 ge224_0 hcc224 hce224; have HR224_0 := A0_ hi224_0; have HC224_0 := A0_ hl224_0; clear hi224_0 hl224_0; replace p224 := eq_true p224; replace q224 := eq_true q224
              have ea_ := sI (hx223_0.symm.trans hx224_0)
              injection ea_ with ea_ en_ ec_
              subst ea_; subst ec_; clear en_
              have p225 : 0 ≤ (x6_2 : Int) := zd
              have q225 : x6_2 < ((rd_L1 t220 x5_1).length : Int) := zd
              obtain ⟨ad225, e225, hx225_0⟩ := tI (by repeat (first | (with_reducible exact HR224_0.out) | (with_reducible refine cA ?_ _) | (with_reducible refine cN ?_ _) | (with_reducible refine cD ?_) | exact HR224_0.out)) x6_2 p225 q225
              cases e225
              replace p225 := eq_true p225; replace q225 := eq_true q225
              have p16 : 0 ≤ ((rd (rd_L1 t220 x5_1) x6_2) : Int) := zd
              have q16 : ((rd (rd_L1 t220 x5_1) x6_2) : Int) < ((x3_2.length : Int) : Int) := zd
              obtain ⟨go16, co16, eo16, gb16, gl16, cl16, HG16⟩ := Kd.R_form HO_3.out (by omega)
              (first | cases eo16 | (injection eo16 with ea_ en_ ec_; (first | subst ea_ | (injection ea_ with ea_; subst ea_)); subst ec_; clear en_))
              have GB16 := A0_ gb16; have GG16 := A0_ HG16; clear gb16 gl16 HG16
              obtain ⟨hx16_0, hf16_0⟩ := Kd.R_celln 0 HO_3.out ((rd (rd_L1 t220 x5_1) x6_2) : Int) p16 q16
              replace p16 := eq_true p16; replace q16 := eq_true q16
              have HP17 := Kd.R_putg HO_3.out ((rd (rd_L1 t220 x5_1) x6_2) : Int) x5_1
              go_wp2_with (first | ((with_reducible refine gS (t := 3) (p := 36) rfl ?_); refine store_event (t := 3) (p := 36) (v := ?vo_w18) (w1 := (wr.setCell ⟨go16, ((rd (rd_L1 t220 x5_1) x6_2) : Int).toNat, none⟩ (.int .i64 x5_1))) ?hg ?ho ?hn ?hr ?_; (case ho => rfl); (case hg => rfl); (case hn => rfl); (case hr => first | (go_simp; done) | (go_simp; rfl)); intro w18 hw; have hg : wr.grownBy w18 (some go16) := (by rw [hw]; exact HP17.2); have hp_ : Kd.R (Kd.int .i64) 3 w18 w.heap.size (fun _ => True) (.slice (some ⟨go16, 0, none⟩) x3_2.length co16) y226 := (by rw [hw, Ny226.out]; exact HP17.1); clear HP17; replace HO_3 := A0_ (hp_); replace HO_4 := A0_ (Kd.S_after (v := (.slice (some ⟨go16, 0, none⟩) x3_2.length co16)) (v1 := (.slice (some ⟨go16, 0, none⟩) x3_2.length co16)) (ok := (fun _ => True)) (zmS HO_4 (fun _ hk => ⟨trivial, hk⟩)) hg (.inl rfl)); replace HL223_0 := A0_ (Kd.R_after (v := (.slice (some ⟨go16, 0, none⟩) x3_2.length co16)) (v1 := (.slice (some ⟨go16, 0, none⟩) x3_2.length co16)) (ok := (fun k_ => some k_ ≠ (.slice (some ad223) t220.length co9 : Value).ownBlock)) (zmR HL223_0 (fun _ hk => ⟨hk.2, hk.1⟩)) hg (.inl rfl)); replace HL224_0 := A0_ (Kd.R_after (v := (.slice (some ⟨go16, 0, none⟩) x3_2.length co16)) (v1 := (.slice (some ⟨go16, 0, none⟩) x3_2.length co16)) (ok := (fun k_ => some k_ ≠ (.slice (some ad223) t220.length co9 : Value).ownBlock)) (zmR HL224_0 (fun _ hk => ⟨hk.2, hk.1⟩)) hg (.inl rfl)); replace HB := A0_ ((by rw [hw]; exact bS (HB.out) GB16.out : Below w.heap.size w w18)); clear hg hw hp_))
              go_roundg k2
              case measure => have := HK1.out; have := HK2.out; omega
              case rel => exact ⟨(y226), (wrap64 (x6_2 + 1)), zt, H', ⟨by have := HK1.out; have := HK2.out; omega⟩, ⟨zR_ HO_3⟩, ⟨zmS HO_4 (fun _ hk => hk.2)⟩, ⟨zB_ HB⟩⟩
             rw [if_neg c15] at H
             exact absurd H (by simp)
            rw [if_neg c14] at H
            exact absurd H (by simp)
           rw [if_neg c13] at H
           exact absurd H (by simp)
          rw [if_neg c12] at H; have c12b0 := dF c12; clear c12; have H' := A0_ H; clear H
          have p223 : 0 ≤ (x5_1 : Int) := zd
          have q223 : x5_1 < (t220.length : Int) := zd
          obtain ⟨ad223, A223_0, c223_0, e223, hx223_0, hl223_0, hi223_0⟩ := at_L1 (Kd.S_reads' HO_4.out).2.2 x5_1 p223 q223
          cases e223
          obtain ⟨ce223, hce223, hMe223, hcc223⟩ := Kd.S_get HO_4.out [] x5_1 p223 (by first | exact q223 | exact zd | (have e_ := (Kd.S_reads' HO_4.out).1; omega))
          obtain ⟨ve223_0, rfl, ge223_0⟩ := hMe223; have hv223_0 := hcc223 0 _ rfl
          rw [Nat.add_zero, show ((Kd.slice 3 (Kd.int .i64))).sz = 1 from rfl, Nat.mul_one] at hv223_0
          replace hv223_0 := sI (hv223_0.symm.trans hx223_0)
          rw [hv223_0] at ge223_0
          have HL223_0 := A0_ (show Kd.R (Kd.int .i64) 3 _ _ _ _ (rd_L1 t220 x5_1) from ge223_0)
          clear hv223_0 ge223_0 hcc223 hce223; have HR223_0 := A0_ hi223_0; have HC223_0 := A0_ hl223_0; clear hi223_0 hl223_0; replace p223 := eq_true p223; replace q223 := eq_true q223
          go_wp2
          go_roundg k2
          case measure => have := HK1.out; have := HK2.out; omega
          case rel => exact ⟨(x3_2), (wrap64 (x5_1 + 1)), zt, H', ⟨by have := HK1.out; have := HK2.out; omega⟩, ⟨zR_ HO_3⟩, ⟨zS_ HO_4⟩, ⟨zB_ HB⟩⟩
         rw [if_neg c11] at H
         exact absurd H (by simp)
        rw [if_neg c10] at H
        exact absurd H (by simp)
     rw [if_neg c8] at H; have c8b0 := dF c8; clear c8; obtain rfl := sI H; obtain ⟨Ao19, co19, eo19⟩ := Kd.S_slice HO_4.out; subst eo19
     go_wp2
     go_ret
     exact ⟨_, by first | rfl | (simp [*] <;> rfl), zR_ HO_3, zB_ HB⟩
  rw [if_neg c3] at H
  exact absurd H (by simp)
 rw [if_neg c2] at H
 exact absurd H (by simp)

/-! ### spec_l1Back: function 85 -/
def spec_l1Back.l0 : Nat → List Int → List Int → Int → Option (List Int)
  | 0, _, _, _ => none
  | k + 1, x0, x3, x4 => if x4 < (x0.length : Int) then (if 0 ≤ x4 then (if 0 ≤ (rd x0 x4) then (if (rd x0 x4) < (x3.length : Int) then (spec_l1Back.l0 k x0 (x3.set ((rd x0 x4) : Int).toNat x4) (wrap64 (x4 + 1))) else (none)) else (none)) else (none)) else (some x3)
def spec_l1Back.f (k : Nat) (l0 : List Int) : Option (List Int) := if 0 ≤ (l0.length : Int) then (if ((l0.length : Int) : Int).toNat ≤ 35184372088832 then (spec_l1Back.l0 k l0 (List.replicate ((l0.length : Int) : Int).toNat 0) 0) else (none)) else (none)
set_option maxHeartbeats 8000000 in
set_option maxRecDepth 100000 in
theorem spec_l1Back.calls (k : Nat) (A0 : Option Addr) (c0 : Nat) (l0 : List Int) (r : List Int) (w : World) (hr0 : Kd.C (Kd.int .i64) w A0 l0.length l0) (hc0 : l0.length ≤ c0) (h : spec_l1Back.f k l0 = some r) :
    Calls Try.prog 85 #[.slice A0 l0.length c0] w fun e w' => ∃ v0_ : Value, e = .returned (v0_) ∧ Kd.R (Kd.int .i64) 3 w' w.heap.size (fun _ => True) v0_ r ∧ Below w.heap.size w w' := by
 have HR0 := A0_ hr0; have HC0 := A0_ hc0; clear hr0 hc0
 have HB := A0_ (Below.refl w.heap.size w)
 have H : (if 0 ≤ (l0.length : Int) then (if ((l0.length : Int) : Int).toNat ≤ 35184372088832 then (spec_l1Back.l0 k l0 (List.replicate ((l0.length : Int) : Int).toNat 0) 0) else (none)) else (none)) = some r := h
 clear h
 by_cases c2 : 0 ≤ (l0.length : Int)
 ·rw [if_pos c2] at H
  have c2b0 := eq_true c2; have c2b1 := dT c2; clear c2
  by_cases c3 : ((l0.length : Int) : Int).toNat ≤ 35184372088832
  ·rw [if_pos c3] at H
   have c3b0 := eq_true c3; have c3b1 := dT c3; clear c3
   obtain ⟨y227, hy227⟩ : ∃ y_ : List Int, y_ = (List.replicate ((l0.length : Int) : Int).toNat 0) := ⟨_, rfl⟩
   replace H : (spec_l1Back.l0 k l0 y227 0) = some r := zH hy227 H
   have Ny227 := A0_ hy227; clear hy227; have H' := A0_ H; clear H
   go_enter Try.func85, Try.ntmps85
   go_wp2_with (first | ((with_reducible refine gD (N := 7) rfl ?_); refine Kd.R_make (Kd.int .i64) _ 3 rfl (N := 7) rfl 22 _ _ rfl (l0.length : Int) rfl rfl Try.underlying22 (.int .i64 0) 8 info3 rfl (by decide) (by omega) 0 (ok := fun _ => True) (okp := fun _ => True) rfl (fun _ hk => hk) trivial (zd) (Nat.le_trans (Nat.mul_le_mul_right _ (zd : (l0.length : Int).toNat ≤ 35184372088832)) (by omega)) (Below.refl _ _) (Nat.le_refl _) ?_; intro v228 w4 ho5 hb hg_ hnew_; clear hg_ hnew_; (first | rw [← Ny227.out] at ho5 | (simp only [Int.reduceToNat] at ho5; rw [← Ny227.out] at ho5)); have HO229 := A0_ (rL ho5 (bZ (zB_ HB))); replace HB := zB HB hb; clear hb ho5))
   go_loopg [4] k (fun kq v4 w' => ∃ (x3_1 : List Int) (x4_1 : Int), v4 = .int .i64 x4_1 ∧ Aside0 (spec_l1Back.l0 kq l0 x3_1 x4_1 = some r) ∧ Aside0 (kq ≤ k) ∧ Aside0 (Kd.R (Kd.int .i64) 3 w' w.heap.size (fun _ => True) v228 x3_1) ∧ Aside0 (Below w.heap.size w w'))
   case atStart => exact ⟨(y227), (0), zt, H', ⟨Nat.le_refl _⟩, ⟨zR_ HO229⟩, ⟨zB_ HB⟩⟩
   case round =>
    clear H'; (try clear c2); (try clear c2b0); (try clear c2b1); (try clear p2); (try clear c3); (try clear c3b0); (try clear c3b1); obtain ⟨x3_1, x4_1, rfl, HA, HK1, HO_3, HB⟩ := hrel
    cases gk with
    | zero => exact absurd HA.out (by simp [spec_l1Back.l0])
    | succ k1 =>
     have H := HA.out; clear HA; simp only [spec_l1Back.l0] at H
     by_cases c6 : x4_1 < (l0.length : Int)
     ·rw [if_pos c6] at H
      have c6b0 := dT c6; clear c6
      by_cases c7 : 0 ≤ x4_1
      ·rw [if_pos c7] at H
       have c7b0 := dT c7; clear c7
       by_cases c8 : 0 ≤ (rd l0 x4_1)
       ·rw [if_pos c8] at H
        have c8b0 := dT c8; clear c8
        by_cases c9 : (rd l0 x4_1) < (x3_1.length : Int)
        ·rw [if_pos c9] at H
         have c9b0 := dT c9; clear c9
         obtain ⟨y231, hy231⟩ : ∃ y_ : List Int, y_ = (x3_1.set ((rd l0 x4_1) : Int).toNat x4_1) := ⟨_, rfl⟩
         replace H : (spec_l1Back.l0 k1 l0 y231 (wrap64 (x4_1 + 1))) = some r := zH hy231 H
         have Ny231 := A0_ hy231; clear hy231; have H' := A0_ H; clear H
         have p230 : 0 ≤ (x4_1 : Int) := zd
         have q230 : x4_1 < (l0.length : Int) := zd
         obtain ⟨ad230, e230, hx230_0⟩ := tI HR0.out x4_1 p230 q230
         cases e230
         try replace hx230_0 := (HB.out.cell (wL w _ hx230_0)).trans hx230_0
         replace p230 := eq_true p230; replace q230 := eq_true q230
         have p10 : 0 ≤ ((rd l0 x4_1) : Int) := zd
         have q10 : ((rd l0 x4_1) : Int) < ((x3_1.length : Int) : Int) := zd
         obtain ⟨go10, co10, eo10, gb10, gl10, cl10, HG10⟩ := Kd.R_form HO_3.out (by omega)
         (first | cases eo10 | (injection eo10 with ea_ en_ ec_; (first | subst ea_ | (injection ea_ with ea_; subst ea_)); subst ec_; clear en_))
         have GB10 := A0_ gb10; have GG10 := A0_ HG10; clear gb10 gl10 HG10
         obtain ⟨hx10_0, hf10_0⟩ := Kd.R_celln 0 HO_3.out ((rd l0 x4_1) : Int) p10 q10
         replace p10 := eq_true p10; replace q10 := eq_true q10
         have HP11 := Kd.R_putg HO_3.out ((rd l0 x4_1) : Int) x4_1
         go_wp2_with (first | ((with_reducible refine gS (t := 3) (p := 20) rfl ?_); refine store_event (t := 3) (p := 20) (v := ?vo_w12) (w1 := (wr.setCell ⟨go10, ((rd l0 x4_1) : Int).toNat, none⟩ (.int .i64 x4_1))) ?hg ?ho ?hn ?hr ?_; (case ho => rfl); (case hg => rfl); (case hn => rfl); (case hr => first | (go_simp; done) | (go_simp; rfl)); intro w12 hw; have hg : wr.grownBy w12 (some go10) := (by rw [hw]; exact HP11.2); have hp_ : Kd.R (Kd.int .i64) 3 w12 w.heap.size (fun _ => True) (.slice (some ⟨go10, 0, none⟩) x3_1.length co10) y231 := (by rw [hw, Ny231.out]; exact HP11.1); clear HP11; replace HO_3 := A0_ (hp_); replace HB := A0_ ((by rw [hw]; exact bS (HB.out) GB10.out : Below w.heap.size w w12)); clear hg hw hp_))
         go_roundg k1
         case measure => have := HK1.out; omega
         case rel => exact ⟨(y231), (wrap64 (x4_1 + 1)), zt, H', ⟨by have := HK1.out; omega⟩, ⟨zR_ HO_3⟩, ⟨zB_ HB⟩⟩
        rw [if_neg c9] at H
        exact absurd H (by simp)
       rw [if_neg c8] at H
       exact absurd H (by simp)
      rw [if_neg c7] at H
      exact absurd H (by simp)
     rw [if_neg c6] at H; have c6b0 := dF c6; clear c6; obtain rfl := sI H
     go_wp2
     go_ret
     exact ⟨_, by first | rfl | (simp [*] <;> rfl), zR_ HO_3, zB_ HB⟩
  rw [if_neg c3] at H
  exact absurd H (by simp)
 rw [if_neg c2] at H
 exact absurd H (by simp)

/-! ### spec_l2Copy: function 88 -/
def spec_l2Copy.f (l0 : List Int) : Option (List Int) := (some (([] : List Int) : List Int)).bind fun y232 => (if y232.length + l0.length < 17592186044416 then (some (y232 ++ l0)) else (none))
set_option maxHeartbeats 8000000 in
set_option maxRecDepth 100000 in
theorem spec_l2Copy.calls (A0 : Option Addr) (c0 : Nat) (l0 : List Int) (r : List Int) (w : World) (hr0 : Kd.C (Kd.int .i64) w A0 l0.length l0) (hc0 : l0.length ≤ c0) (h : spec_l2Copy.f l0 = some r) :
    Calls Try.prog 88 #[.slice A0 l0.length c0] w fun e w' => ∃ v0_ : Value, e = .returned (v0_) ∧ Kd.R (Kd.int .i64) 3 w' w.heap.size (fun _ => True) v0_ r ∧ Below w.heap.size w w' := by
 have HR0 := A0_ hr0; have HC0 := A0_ hc0; clear hr0 hc0
 have HB := A0_ (Below.refl w.heap.size w)
 have H : ((some (([] : List Int) : List Int)).bind fun y232 => (if y232.length + l0.length < 17592186044416 then (some (y232 ++ l0)) else (none))) = some r := h
 clear h
 obtain ⟨y232, hy232⟩ : ∃ y_ : List Int, y_ = (([] : List Int)) := ⟨_, rfl⟩
 replace H : (if y232.length + l0.length < 17592186044416 then (some (y232 ++ l0)) else (none)) = some r := zH hy232 H
 have Ny232 := A0_ hy232; clear hy232
 by_cases c2 : y232.length + l0.length < 17592186044416
 ·rw [if_pos c2] at H
  have LMc2 := A0_ c2; clear c2
  obtain ⟨y235, hy235⟩ : ∃ y_ : List Int, y_ = (y232 ++ l0) := ⟨_, rfl⟩
  replace H : (some y235) = some r := zH hy235 H
  have Ny235 := A0_ hy235; clear hy235; obtain rfl := sI H
  go_enter Try.func88, Try.ntmps88
  go_wp2_with (first | ((with_reducible refine gD (N := 3) rfl ?_); refine Kd.R_lit (Kd.int .i64) _ 3 ?hg (N := 3) ?hd (xs := ([] : List Int)) (inner := []) (ok := fun _ => True) (okp := fun _ => True) ?hr ?hp (fun _ hk => hk) trivial (Below.refl _ _) (Nat.le_refl _) (by simp) ?_; (case hd => rfl); (case hg => rfl); (case hr => first | (go_simp; done) | (go_simp; rfl)); (case hp => exact (Reps.none _ _)); intro v233 w3 ho4 hb hg_ hnew_; clear hg_ hnew_; (first | rw [← Ny232.out] at ho4 | (simp only [Int.reduceToNat] at ho4; rw [← Ny232.out] at ho4)); have HO234 := A0_ (rL ho4 (bZ (zB_ HB))); replace HB := zB HB hb; clear hb ho4) | ((with_reducible refine gB (b := .append) (xs := #[.tmp 3, .tmp 4]) rfl ?_); at_builtin; refine Kd.R_append_rows (Kd.int .i64) (w0 := w) w.heap.size rfl (.tmp 3) (.tmp 4) 22 3 (.int .i64 0) 8 rfl Try.underlying22 info3 rfl (by decide) (by omega) v233 y232 l0 _ _ _ (fun _ => True) (fun _ => False) rfl rfl ?aO ?aR (fun _ _ h => h) (fun _ h => h.elim) ?aF ?aB ?aS ?aL ?_; (case aR => exact zC HR0 HB); (case aB => exact (zB_ HB)); (case aF => exact (fun _ _ => trivial)); (case aO => exact (zR_ HO234)); (case aS => exact (bZ (zB_ HB))); (case aL => have := LMc2.out; omega); intro v236 w5 ho hb hg hat; rw [← Ny235.out] at ho; replace HB := A0_ (hb); have HO237 := A0_ (ho); clear HO234 ho hb hg hat))
  go_ret
  exact ⟨_, by first | rfl | (simp [*] <;> rfl), zR_ HO237, zB_ HB⟩
 rw [if_neg c2] at H
 exact absurd H (by simp)

/-! ### spec_l7Edges: function 106 -/
def spec_l7Edges.l0 : Nat → List Int → Int → Int → List Int → List Int → Option (List Int)
  | 0, _, _, _, _, _ => none
  | k + 1, x3, x4, x5, x239000, x239001 => if x5 < (x3.length : Int) then (if 0 ≤ x5 then (if x5 < (x239001.length : Int) then (if x5 < (rd x239001 x5) then (if 0 ≤ (rd x239001 x5) then (if (rd x239001 x5) < (x3.length : Int) then (spec_l7Edges.l0 k ((x3.set (x5 : Int).toNat x4).set ((rd x239001 x5) : Int).toNat x4) (wrap64 (x4 + 1)) (wrap64 (x5 + 1)) x239000 x239001) else (none)) else (none)) else (spec_l7Edges.l0 k x3 x4 (wrap64 (x5 + 1)) x239000 x239001)) else (none)) else (none)) else (some x3)
def spec_l7Edges.f (k : Nat) (l0_0 : List Int) (l0_1 : List Int) : Option (List Int) := if 0 ≤ (l0_1.length : Int) then (if ((l0_1.length : Int) : Int).toNat ≤ 35184372088832 then (spec_l7Edges.l0 k (List.replicate ((l0_1.length : Int) : Int).toNat 0) 0 0 l0_0 l0_1) else (none)) else (none)
set_option maxHeartbeats 8000000 in
set_option maxRecDepth 100000 in
theorem spec_l7Edges.calls (k : Nat) (A0_0 : Option Addr) (c0_0 : Nat) (l0_0 : List Int) (A0_1 : Option Addr) (c0_1 : Nat) (l0_1 : List Int) (r : List Int) (w : World) (hr0_0 : Kd.C (Kd.int .i64) w A0_0 l0_0.length l0_0) (hc0_0 : l0_0.length ≤ c0_0) (hr0_1 : Kd.C (Kd.int .i64) w A0_1 l0_1.length l0_1) (hc0_1 : l0_1.length ≤ c0_1) (h : spec_l7Edges.f k l0_0 l0_1 = some r) :
    Calls Try.prog 106 #[.agg #[.slice A0_0 l0_0.length c0_0, .slice A0_1 l0_1.length c0_1]] w fun e w' => ∃ v0_ : Value, e = .returned (v0_) ∧ Kd.R (Kd.int .i64) 3 w' w.heap.size (fun _ => True) v0_ r ∧ Below w.heap.size w w' := by
 have hu29 := Try.underlying29; have HR0_0 := A0_ hr0_0; have HC0_0 := A0_ hc0_0; clear hr0_0 hc0_0; have HR0_1 := A0_ hr0_1; have HC0_1 := A0_ hc0_1; clear hr0_1 hc0_1
 have HB := A0_ (Below.refl w.heap.size w)
 have H : (if 0 ≤ (l0_1.length : Int) then (if ((l0_1.length : Int) : Int).toNat ≤ 35184372088832 then (spec_l7Edges.l0 k (List.replicate ((l0_1.length : Int) : Int).toNat 0) 0 0 l0_0 l0_1) else (none)) else (none)) = some r := h
 clear h
 by_cases c2 : 0 ≤ (l0_1.length : Int)
 ·rw [if_pos c2] at H
  have c2b0 := eq_true c2; have c2b1 := dT c2; clear c2
  by_cases c3 : ((l0_1.length : Int) : Int).toNat ≤ 35184372088832
  ·rw [if_pos c3] at H
   have c3b0 := eq_true c3; have c3b1 := dT c3; clear c3
   obtain ⟨y239, hy239⟩ : ∃ y_ : List Int, y_ = (List.replicate ((l0_1.length : Int) : Int).toNat 0) := ⟨_, rfl⟩
   replace H : (spec_l7Edges.l0 k y239 0 0 l0_0 l0_1) = some r := zH hy239 H
   have Ny239 := A0_ hy239; clear hy239; have H' := A0_ H; clear H
   go_enter Try.func106, Try.ntmps106
   go_wp2_with (first | ((with_reducible refine gD (N := 1) rfl ?_); refine zX (N := 1) (cs := #[.slice A0_0 l0_0.length c0_0, .slice A0_1 l0_1.length c0_1]) (t := 29) ?_; intro gb238 hg w4 hbox hb; have BK238 := A0_ (hbox); have GW238 := zG hg HB; have GE238 := zG hg HB; replace HB := zB HB hb; clear hb hbox hg; have hcz5_0 := zc0 BK238; have hcz5_1 := zc1 BK238; have hfz5_0 := kF BK238.out 0; have hfz5_1 := kF BK238.out 1) | ((with_reducible refine gD (N := 9) rfl ?_); refine Kd.R_make (Kd.int .i64) _ 3 rfl (N := 9) rfl 22 _ _ rfl (l0_1.length : Int) rfl rfl Try.underlying22 (.int .i64 0) 8 info3 rfl (by decide) (by omega) 0 (ok := fun _ => True) (okp := fun _ => True) rfl (fun _ hk => hk) trivial (zd) (Nat.le_trans (Nat.mul_le_mul_right _ (zd : (l0_1.length : Int).toNat ≤ 35184372088832)) (by omega)) (Below.refl _ _) (Nat.le_refl _) ?_; intro v240 w6 ho7 hb hg_ hnew_; clear hg_ hnew_; (first | rw [← Ny239.out] at ho7 | (simp only [Int.reduceToNat] at ho7; rw [← Ny239.out] at ho7)); have HO241 := A0_ (rL ho7 (bZ (zB_ HB))); replace BK238 := zK BK238 hb; replace HB := zB HB hb; clear hb ho7))
   go_loopg [4, 5] k (fun kq v4 v5 w' => ∃ (x3_1 : List Int) (x4_1 : Int) (x5_1 : Int), v4 = .int .i64 x4_1 ∧ v5 = .int .i64 x5_1 ∧ Aside0 (spec_l7Edges.l0 kq x3_1 x4_1 x5_1 l0_0 l0_1 = some r) ∧ Aside0 (kq ≤ k) ∧ Aside0 (Kd.R (Kd.int .i64) 3 w' w.heap.size (fun _ => True) v240 x3_1) ∧ Aside0 (w'.heap[gb238]? = some (.cells #[(.slice A0_0 l0_0.length c0_0), (.slice A0_1 l0_1.length c0_1)] 29 (0, 0))) ∧ Aside0 (Below w.heap.size w w'))
   case atStart => exact ⟨(y239), (0), (0), zt, zt, H', ⟨Nat.le_refl _⟩, ⟨zR_ HO241⟩, ⟨zK_ BK238⟩, ⟨zB_ HB⟩⟩
   case round =>
    clear H'; (try clear c1); (try clear c2); (try clear c2b0); (try clear c2b1); (try clear p2); (try clear c3); (try clear c3b0); (try clear c3b1); (try clear hcz5_0); (try clear hcz5_1); (try clear hfz5_0); (try clear hfz5_1); obtain ⟨x3_1, x4_1, x5_1, rfl, rfl, HA, HK1, HO_3, BK238, HB⟩ := hrel
    cases gk with
    | zero => exact absurd HA.out (by simp [spec_l7Edges.l0])
    | succ k1 =>
     have H := HA.out; clear HA; simp only [spec_l7Edges.l0] at H
     by_cases c8 : x5_1 < (x3_1.length : Int)
     ·rw [if_pos c8] at H
      have c8b0 := dT c8; clear c8
      by_cases c9 : 0 ≤ x5_1
      ·rw [if_pos c9] at H
       have c9b0 := dT c9; clear c9
       by_cases c10 : x5_1 < (l0_1.length : Int)
       ·rw [if_pos c10] at H
        have c10b0 := dT c10; clear c10
        by_cases c11 : x5_1 < (rd l0_1 x5_1)
        ·rw [if_pos c11] at H
         have c11b0 := dT c11; clear c11
         obtain ⟨y243, hy243⟩ : ∃ y_ : List Int, y_ = (x3_1.set (x5_1 : Int).toNat x4_1) := ⟨_, rfl⟩
         replace H : (if 0 ≤ (rd l0_1 x5_1) then (if (rd l0_1 x5_1) < (x3_1.length : Int) then (spec_l7Edges.l0 k1 (y243.set ((rd l0_1 x5_1) : Int).toNat x4_1) (wrap64 (x4_1 + 1)) (wrap64 (x5_1 + 1)) l0_0 l0_1) else (none)) else (none)) = some r := zH hy243 H
         have Ny243 := A0_ hy243; clear hy243
         by_cases c13 : 0 ≤ (rd l0_1 x5_1)
         ·rw [if_pos c13] at H
          have c13b0 := dT c13; clear c13
          by_cases c14 : (rd l0_1 x5_1) < (x3_1.length : Int)
          ·rw [if_pos c14] at H
           have c14b0 := dT c14; clear c14
           obtain ⟨y245, hy245⟩ : ∃ y_ : List Int, y_ = (y243.set ((rd l0_1 x5_1) : Int).toNat x4_1) := ⟨_, rfl⟩
           replace H : (spec_l7Edges.l0 k1 y245 (wrap64 (x4_1 + 1)) (wrap64 (x5_1 + 1)) l0_0 l0_1) = some r := zH hy245 H
           have Ny245 := A0_ hy245; clear hy245; have H' := A0_ H; clear H; obtain ⟨Ao16, co16, eo16⟩ := rS HO_3.out; subst eo16; have hcz17_0 := zc0 BK238; have hcz17_1 := zc1 BK238; have hfz17_0 := kF BK238.out 0; have hfz17_1 := kF BK238.out 1
           have p242 : 0 ≤ (x5_1 : Int) := zd
           have q242 : x5_1 < (l0_1.length : Int) := zd
           obtain ⟨ad242, e242, hx242_0⟩ := tI HR0_1.out x5_1 p242 q242
           cases e242
           try replace hx242_0 := (HB.out.cell (wL w _ hx242_0)).trans hx242_0
           replace p242 := eq_true p242; replace q242 := eq_true q242
           have p12 : 0 ≤ (x5_1 : Int) := zd
           have q12 : (x5_1 : Int) < ((x3_1.length : Int) : Int) := zd
           obtain ⟨go12, co12, eo12, gb12, gl12, cl12, HG12⟩ := Kd.R_form HO_3.out (by omega)
           (first | cases eo12 | (injection eo12 with ea_ en_ ec_; (first | subst ea_ | (injection ea_ with ea_; subst ea_)); subst ec_; clear en_))
           have GB12 := A0_ gb12; have GG12 := A0_ HG12; clear gb12 gl12 HG12
           obtain ⟨hx12_0, hf12_0⟩ := Kd.R_celln 0 HO_3.out (x5_1 : Int) p12 q12
           replace p12 := eq_true p12; replace q12 := eq_true q12
           have HP18 := Kd.R_putg HO_3.out (x5_1 : Int) x4_1
           go_wp2_with (first | ((with_reducible refine gS (t := 3) (p := 26) rfl ?_); refine store_event (t := 3) (p := 26) (v := ?vo_w19) (w1 := (wr.setCell ⟨go12, (x5_1 : Int).toNat, none⟩ (.int .i64 x4_1))) ?hg ?ho ?hn ?hr ?_; (case ho => rfl); (case hg => rfl); (case hn => rfl); (case hr => first | (go_simp; done) | (go_simp; rfl)); intro w19 hw; have hg : wr.grownBy w19 (some go12) := (by rw [hw]; exact HP18.2); have hp_ : Kd.R (Kd.int .i64) 3 w19 w.heap.size (fun _ => True) (.slice (some ⟨go12, 0, none⟩) x3_1.length co16) y243 := (by rw [hw, Ny243.out]; exact HP18.1); clear HP18; replace BK238 := A0_ (blk_grown (g := gb238) (o := .cells #[.slice A0_0 l0_0.length c0_0, .slice (some ad242) l0_1.length c0_1] 29 (0, 0)) (zK_ BK238) hg (Kd.R_ne HO_3.out BK238.out (by decide))); replace HO_3 := A0_ (hp_); replace HB := A0_ ((by rw [hw]; exact bS (HB.out) GB12.out : Below w.heap.size w w19)); clear hg hw hp_; have hcz20_0 := zc0 BK238; have hcz20_1 := zc1 BK238; have hfz20_0 := kF BK238.out 0; have hfz20_1 := kF BK238.out 1; have p244 : 0 ≤ (x5_1 : Int) := zd; have q244 : x5_1 < (l0_1.length : Int) := zd; obtain ⟨ad244, e244, hx244_0⟩ := tI HR0_1.out x5_1 p244 q244; obtain rfl : ad242 = ad244 := (by injection e244); try replace hx244_0 := (HB.out.cell (wL w _ hx244_0)).trans hx244_0; replace p244 := eq_true p244; replace q244 := eq_true q244; have p15 : 0 ≤ ((rd l0_1 x5_1) : Int) := zd; have q15 : ((rd l0_1 x5_1) : Int) < ((x3_1.length : Int) : Int) := zd; obtain ⟨hx15_0, hf15_0⟩ := Kd.R_celln 0 HO_3.out ((rd l0_1 x5_1) : Int) p15 q15; replace p15 := eq_true p15; replace q15 := eq_true q15; obtain ⟨hy21_, hz21_⟩ := Kd.R_celln 0 HO_3.out ((rd l0_1 x5_1) : Int) (zd) (zd); have HP21 := Kd.R_putg HO_3.out ((rd l0_1 x5_1) : Int) x4_1) | ((with_reducible refine gS (t := 3) (p := 34) rfl ?_); refine store_event (t := 3) (p := 34) (v := ?vo_w22) (w1 := (w19.setCell ⟨go12, ((rd l0_1 x5_1) : Int).toNat, none⟩ (.int .i64 x4_1))) ?hg ?ho ?hn ?hr ?_; (case ho => rfl); (case hg => rfl); (case hn => rfl); (case hr => first | (go_simp; done) | (go_simp; rfl)); intro w22 hw; have hg : w19.grownBy w22 (some go12) := (by rw [hw]; exact HP21.2); have hp_ : Kd.R (Kd.int .i64) 3 w22 w.heap.size (fun _ => True) (.slice (some ⟨go12, 0, none⟩) x3_1.length co16) y245 := (by rw [hw, Ny245.out]; exact HP21.1); clear HP21; replace BK238 := A0_ (blk_grown (g := gb238) (o := .cells #[.slice A0_0 l0_0.length c0_0, .slice (some ad242) l0_1.length c0_1] 29 (0, 0)) (zK_ BK238) hg (Kd.R_ne HO_3.out BK238.out (by decide))); replace HO_3 := A0_ (hp_); replace HB := A0_ ((by rw [hw]; exact bS (HB.out) GB12.out : Below w.heap.size w w22)); clear hg hw hp_))
           go_roundg k1
           case measure => have := HK1.out; omega
           case rel => exact ⟨(y245), (wrap64 (x4_1 + 1)), (wrap64 (x5_1 + 1)), zt, zt, H', ⟨by have := HK1.out; omega⟩, ⟨zR_ HO_3⟩, ⟨zK_ BK238⟩, ⟨zB_ HB⟩⟩
          rw [if_neg c14] at H
          exact absurd H (by simp)
         rw [if_neg c13] at H
         exact absurd H (by simp)
        rw [if_neg c11] at H; have c11b0 := dF c11; clear c11; have H' := A0_ H; clear H; obtain ⟨Ao23, co23, eo23⟩ := rS HO_3.out; subst eo23; have hcz24_0 := zc0 BK238; have hcz24_1 := zc1 BK238; have hfz24_0 := kF BK238.out 0; have hfz24_1 := kF BK238.out 1
        have p242 : 0 ≤ (x5_1 : Int) := zd
        have q242 : x5_1 < (l0_1.length : Int) := zd
        obtain ⟨ad242, e242, hx242_0⟩ := tI HR0_1.out x5_1 p242 q242
        cases e242
        try replace hx242_0 := (HB.out.cell (wL w _ hx242_0)).trans hx242_0
        replace p242 := eq_true p242; replace q242 := eq_true q242
        go_wp2
        go_roundg k1
        case measure => have := HK1.out; omega
        case rel => exact ⟨(x3_1), (x4_1), (wrap64 (x5_1 + 1)), zt, zt, H', ⟨by have := HK1.out; omega⟩, ⟨zR_ HO_3⟩, ⟨zK_ BK238⟩, ⟨zB_ HB⟩⟩
       rw [if_neg c10] at H
       exact absurd H (by simp)
      rw [if_neg c9] at H
      exact absurd H (by simp)
     rw [if_neg c8] at H; have c8b0 := dF c8; clear c8; obtain rfl := sI H; obtain ⟨Ao25, co25, eo25⟩ := rS HO_3.out; subst eo25
     go_wp2
     go_ret
     exact ⟨_, by first | rfl | (simp [*] <;> rfl), zR_ HO_3, zB_ HB⟩
  rw [if_neg c3] at H
  exact absurd H (by simp)
 rw [if_neg c2] at H
 exact absurd H (by simp)

end Go.Proofs.Ytmcgkckdnelcdaa.PFnExactCoverConj
