-- Made by a program of this session (wip/tools) out of the loaded program; not trusted: Lean checks it.
import Derived.Test.YtmcgkckdnelcdaaPFnExactCoverTreex0
import Derived.Test.YtmcgkckdnelcdaaPFnExactCoverTreex4
-- packed
namespace Go.Proofs.Ytmcgkckdnelcdaa.PFnExactCoverTree
open Go.RowKit Go.Proofs.YtmcgkckdnelcdaaW.PrintWords Go.Proofs.YtmcgkckdnelcdaaW.PrintLast Go.Proofs.YtmcgkckdnelcdaaW.PrintMore
attribute [local go_sem] max2_int min2_int max_two min_two max_three min_three max_four min_four   -- for this text's walks alone
set_option linter.unusedVariables false
set_option linter.unusedSimpArgs false

/-! ### spec_l2Names: function 86 -/
mutual
def spec_l2Names.l0 : Nat → Int → List Int → Int → List Int → List Int → Option (List Int)
  | 0, _, _, _, _, _ => none
  | k + 1, x1, x5, x6, x300000, x300001 => if x6 < (x5.length : Int) then (if 0 ≤ x6 then (spec_l2Names.l0 k x1 (x5.set (x6 : Int).toNat (-1)) (wrap64 (x6 + 1)) x300000 x300001) else (none)) else (if 0 ≤ x1 then (if x1 < (x5.length : Int) then (spec_l2Names.l1 k (x5.set (x1 : Int).toNat 0) (([x1] : List Int)) 0 x300000 x300001) else (none)) else (none))
def spec_l2Names.l1 : Nat → List Int → List Int → Int → List Int → List Int → Option (List Int)
  | 0, _, _, _, _, _ => none
  | k + 1, x5, x7, x8, x300000, x300001 => if x8 < (x7.length : Int) then (if 0 ≤ x8 then (if 0 ≤ (rd x7 x8) then (if (rd x7 x8) < (x300000.length : Int) then (if (rd x7 x8) < (x300001.length : Int) then (spec_l2Names.l2 k x5 x7 x8 (([rd x300000 (rd x7 x8), rd x300001 (rd x7 x8)] : List Int)) 0 x300000 x300001) else (none)) else (none)) else (none)) else (none)) else (some x5)
def spec_l2Names.l2 : Nat → List Int → List Int → Int → List Int → Int → List Int → List Int → Option (List Int)
  | 0, _, _, _, _, _, _, _ => none
  | k + 1, x5, x7, x8, x9, x10, x300000, x300001 => if x10 < 2 then (if 0 ≤ x10 then (if x10 < (x9.length : Int) then (if 0 ≤ (rd x9 x10) then (if (rd x9 x10) < (x5.length : Int) then (if (rd x5 (rd x9 x10)) < 0 then (if x7.length < 17592186044416 then (spec_l2Names.l2 k (x5.set ((rd x9 x10) : Int).toNat (x7.length : Int)) (x7 ++ [rd x9 x10]) x8 x9 (wrap64 (x10 + 1)) x300000 x300001) else (none)) else (spec_l2Names.l2 k x5 x7 x8 x9 (wrap64 (x10 + 1)) x300000 x300001)) else (none)) else (none)) else (none)) else (none)) else (spec_l2Names.l1 k x5 x7 (wrap64 (x8 + 1)) x300000 x300001)
end
def spec_l2Names.f (k : Nat) (l0_0 : List Int) (l0_1 : List Int) (a1 : Int) : Option (List Int) := if 0 ≤ (l0_0.length : Int) then (if ((l0_0.length : Int) : Int).toNat ≤ 35184372088832 then (spec_l2Names.l0 k a1 (List.replicate ((l0_0.length : Int) : Int).toNat 0) 0 l0_0 l0_1) else (none)) else (none)
def spec_l2Names.T11 : Bool × List (List Nat × List Nat) := (true, [([], []), ([0], [0]), ([], []), ([], []), ([2, 3], [2, 3]), ([4], [4]), ([1, 5], [1, 5]), ([6], [6]), ([], []), ([8], [8]), ([], []), ([], []), ([10, 11], [10, 11]), ([12], [12]), ([9, 13], [9, 13]), ([14], [14]), ([7, 15], [7, 15]), ([16, 0, 1, 2, 3, 4, 5, 6, 7, 8, 9, 10, 11, 12, 13, 14, 15, 16], [16])])
def spec_l2Names.B11 : List Nat := [0, 1, 0, 0, 12, 28, 63, 127, 0, 256, 0, 0, 3072, 7168, 16128, 32512, 65535, 131071]
theorem spec_l2Names.tab11 : rtab .any (opsOf Try.f86 11) = spec_l2Names.T11 := by kernel_rfl
theorem spec_l2Names.bits11 : waitsOk spec_l2Names.T11.2 spec_l2Names.B11 = true := by kernel_rfl
set_option maxHeartbeats 8000000 in
set_option maxRecDepth 100000 in
theorem spec_l2Names.calls (k : Nat) (A0_0 : Option Addr) (c0_0 : Nat) (l0_0 : List Int) (A0_1 : Option Addr) (c0_1 : Nat) (l0_1 : List Int) (a1 : Int) (r : List Int) (w : World) (hr0_0 : Kd.C (Kd.int .i64) w A0_0 l0_0.length l0_0) (hc0_0 : l0_0.length ≤ c0_0) (hr0_1 : Kd.C (Kd.int .i64) w A0_1 l0_1.length l0_1) (hc0_1 : l0_1.length ≤ c0_1) (h : spec_l2Names.f k l0_0 l0_1 a1 = some r) :
    Calls Try.prog 86 #[.agg #[.slice A0_0 l0_0.length c0_0, .slice A0_1 l0_1.length c0_1], .int .i64 a1] w fun e w' => ∃ v0_ : Value, e = .returned (v0_) ∧ Kd.R (Kd.int .i64) 3 w' w.heap.size (fun _ => True) v0_ r ∧ Below w.heap.size w w' := by
 have hu29 := Try.underlying29; have HR0_0 := A0_ hr0_0; have HC0_0 := A0_ hc0_0; clear hr0_0 hc0_0; have HR0_1 := A0_ hr0_1; have HC0_1 := A0_ hc0_1; clear hr0_1 hc0_1
 have HB := A0_ (Below.refl w.heap.size w)
 have H : (if 0 ≤ (l0_0.length : Int) then (if ((l0_0.length : Int) : Int).toNat ≤ 35184372088832 then (spec_l2Names.l0 k a1 (List.replicate ((l0_0.length : Int) : Int).toNat 0) 0 l0_0 l0_1) else (none)) else (none)) = some r := h
 clear h
 by_cases c3 : 0 ≤ (l0_0.length : Int)
 ·rw [if_pos c3] at H
  have c3b0 := eq_true c3; have c3b1 := dT c3; clear c3
  by_cases c4 : ((l0_0.length : Int) : Int).toNat ≤ 35184372088832
  ·rw [if_pos c4] at H
   have c4b0 := eq_true c4; have c4b1 := dT c4; clear c4
   obtain ⟨y300, hy300⟩ : ∃ y_ : List Int, y_ = (List.replicate ((l0_0.length : Int) : Int).toNat 0) := ⟨_, rfl⟩
   replace H : (spec_l2Names.l0 k a1 y300 0 l0_0 l0_1) = some r := zH hy300 H
   have Ny300 := A0_ hy300; clear hy300; have H' := A0_ H; clear H
   go_enter Try.func86, Try.ntmps86
   go_wp2_with (first | ((with_reducible refine gD (N := 2) rfl ?_); refine zX (N := 2) (cs := #[.slice A0_0 l0_0.length c0_0, .slice A0_1 l0_1.length c0_1]) (t := 29) ?_; intro gb299 hg w5 hbox hb; have BK299 := A0_ (hbox); have GW299 := zG hg HB; have GE299 := zG hg HB; replace HB := zB HB hb; clear hb hbox hg; have hcz6_0 := zc0 BK299; have hcz6_1 := zc1 BK299; have hfz6_0 := kF BK299.out 0; have hfz6_1 := kF BK299.out 1) | ((with_reducible refine gD (N := 14) rfl ?_); refine Kd.R_make (Kd.int .i64) _ 3 rfl (N := 14) rfl 22 _ _ rfl (l0_0.length : Int) rfl rfl Try.underlying22 (.int .i64 0) 8 info3 rfl (by decide) (by omega) 0 (ok := fun _ => True) (okp := fun _ => True) rfl (fun _ hk => hk) trivial (zd) (Nat.le_trans (Nat.mul_le_mul_right _ (zd : (l0_0.length : Int).toNat ≤ 35184372088832)) (by omega)) (Below.refl _ _) (Nat.le_refl _) ?_; intro v301 w7 ho8 hb hg_ hnew_; clear hg_ hnew_; (first | rw [← Ny300.out] at ho8 | (simp only [Int.reduceToNat] at ho8; rw [← Ny300.out] at ho8)); have HO302 := A0_ (rL ho8 (bZ (zB_ HB))); replace BK299 := zK BK299 hb; replace HB := zB HB hb; clear hb ho8))
   go_loopg [6] k (fun kq v6 w' => ∃ (x5_1 : List Int) (x6_1 : Int), v6 = .int .i64 x6_1 ∧ Aside0 (spec_l2Names.l0 kq a1 x5_1 x6_1 l0_0 l0_1 = some r) ∧ Aside0 (kq ≤ k) ∧ Aside0 (Kd.R (Kd.int .i64) 3 w' w.heap.size (fun _ => True) v301 x5_1) ∧ Aside0 (w'.heap[gb299]? = some (.cells #[(.slice A0_0 l0_0.length c0_0), (.slice A0_1 l0_1.length c0_1)] 29 (0, 0))) ∧ Aside0 (Below w.heap.size w w'))
   case atStart => exact ⟨(y300), (0), zt, H', ⟨Nat.le_refl _⟩, ⟨zR_ HO302⟩, ⟨zK_ BK299⟩, ⟨zB_ HB⟩⟩
   case round =>
    clear H'; (try clear p2); (try clear c3); (try clear c3b0); (try clear c3b1); (try clear c4); (try clear c4b0); (try clear c4b1); (try clear c8); (try clear hcz6_0); (try clear hcz6_1); (try clear hfz6_0); (try clear hfz6_1); obtain ⟨x5_1, x6_1, rfl, HA, HK1, HO_5, BK299, HB⟩ := hrel
    cases gk with
    | zero => exact absurd HA.out (by simp [spec_l2Names.l0])
    | succ k1 =>
     have H := HA.out; clear HA; simp only [spec_l2Names.l0] at H
     by_cases c9 : x6_1 < (x5_1.length : Int)
     ·rw [if_pos c9] at H
      have c9b0 := dT c9; clear c9
      by_cases c10 : 0 ≤ x6_1
      ·rw [if_pos c10] at H
       have c10b0 := dT c10; clear c10
       obtain ⟨y303, hy303⟩ : ∃ y_ : List Int, y_ = (x5_1.set (x6_1 : Int).toNat (-1)) := ⟨_, rfl⟩
       replace H : (spec_l2Names.l0 k1 a1 y303 (wrap64 (x6_1 + 1)) l0_0 l0_1) = some r := zH hy303 H
       have Ny303 := A0_ hy303; clear hy303; have H' := A0_ H; clear H; obtain ⟨Ao12, co12, eo12⟩ := rS HO_5.out; subst eo12
       have p11 : 0 ≤ (x6_1 : Int) := zd
       have q11 : (x6_1 : Int) < ((x5_1.length : Int) : Int) := zd
       obtain ⟨go11, co11, eo11, gb11, gl11, cl11, HG11⟩ := Kd.R_form HO_5.out (by omega)
       (first | cases eo11 | (injection eo11 with ea_ en_ ec_; (first | subst ea_ | (injection ea_ with ea_; subst ea_)); subst ec_; clear en_))
       have GB11 := A0_ gb11; have GG11 := A0_ HG11; clear gb11 gl11 HG11
       obtain ⟨hx11_0, hf11_0⟩ := Kd.R_celln 0 HO_5.out (x6_1 : Int) p11 q11
       replace p11 := eq_true p11; replace q11 := eq_true q11
       have HP13 := Kd.R_putg HO_5.out (x6_1 : Int) (-1)
       go_wp2_with (first | ((with_reducible refine gS (t := 3) (p := 23) rfl ?_); refine store_event (t := 3) (p := 23) (v := ?vo_w14) (w1 := (wr.setCell ⟨go11, (x6_1 : Int).toNat, none⟩ (.int .i64 (-1)))) ?hg ?ho ?hn ?hr ?_; (case ho => rfl); (case hg => rfl); (case hn => rfl); (case hr => first | (go_simp; done) | (go_simp; rfl)); intro w14 hw; have hg : wr.grownBy w14 (some go11) := (by rw [hw]; exact HP13.2); have hp_ : Kd.R (Kd.int .i64) 3 w14 w.heap.size (fun _ => True) (.slice (some ⟨go11, 0, none⟩) x5_1.length co12) y303 := (by rw [hw, Ny303.out]; exact HP13.1); clear HP13; replace BK299 := A0_ (blk_grown (g := gb299) (o := .cells #[.slice A0_0 l0_0.length c0_0, .slice A0_1 l0_1.length c0_1] 29 (0, 0)) (zK_ BK299) hg (Kd.R_ne HO_5.out BK299.out (by decide))); replace HO_5 := A0_ (hp_); replace HB := A0_ ((by rw [hw]; exact bS (HB.out) GB11.out : Below w.heap.size w w14)); clear hg hw hp_))
       go_roundg k1
       case measure => have := HK1.out; omega
       case rel => exact ⟨(y303), (wrap64 (x6_1 + 1)), zt, H', ⟨by have := HK1.out; omega⟩, ⟨zR_ HO_5⟩, ⟨zK_ BK299⟩, ⟨zB_ HB⟩⟩
      rw [if_neg c10] at H
      exact absurd H (by simp)
     rw [if_neg c9] at H; have c9b0 := dF c9; clear c9
     by_cases c15 : 0 ≤ a1
     ·rw [if_pos c15] at H
      have c15b0 := dT c15; clear c15
      by_cases c16 : a1 < (x5_1.length : Int)
      ·rw [if_pos c16] at H
       have c16b0 := dT c16; clear c16
       obtain ⟨y304, hy304⟩ : ∃ y_ : List Int, y_ = (x5_1.set (a1 : Int).toNat 0) := ⟨_, rfl⟩
       replace H : (spec_l2Names.l1 k1 y304 (([a1] : List Int)) 0 l0_0 l0_1) = some r := zH hy304 H
       have Ny304 := A0_ hy304; clear hy304
       obtain ⟨y305, hy305⟩ : ∃ y_ : List Int, y_ = (([a1] : List Int)) := ⟨_, rfl⟩
       replace H : (spec_l2Names.l1 k1 y304 y305 0 l0_0 l0_1) = some r := zH hy305 H
       have Ny305 := A0_ hy305; clear hy305; have H' := A0_ H; clear H; obtain ⟨Ao18, co18, eo18⟩ := rS HO_5.out; subst eo18
       have p17 : 0 ≤ (a1 : Int) := zd
       have q17 : (a1 : Int) < ((x5_1.length : Int) : Int) := zd
       obtain ⟨go17, co17, eo17, gb17, gl17, cl17, HG17⟩ := Kd.R_form HO_5.out (by omega)
       (first | cases eo17 | (injection eo17 with ea_ en_ ec_; (first | subst ea_ | (injection ea_ with ea_; subst ea_)); subst ec_; clear en_))
       have GB17 := A0_ gb17; have GG17 := A0_ HG17; clear gb17 gl17 HG17
       obtain ⟨hx17_0, hf17_0⟩ := Kd.R_celln 0 HO_5.out (a1 : Int) p17 q17
       replace p17 := eq_true p17; replace q17 := eq_true q17
       have HP19 := Kd.R_putg HO_5.out (a1 : Int) 0
       go_wp2_with (first | ((with_reducible refine gS (t := 3) (p := 26) rfl ?_); refine store_event (t := 3) (p := 26) (v := ?vo_w20) (w1 := (wr.setCell ⟨go17, (a1 : Int).toNat, none⟩ (.int .i64 0))) ?hg ?ho ?hn ?hr ?_; (case ho => rfl); (case hg => rfl); (case hn => rfl); (case hr => first | (go_simp; done) | (go_simp; rfl)); intro w20 hw; have hg : wr.grownBy w20 (some go17) := (by rw [hw]; exact HP19.2); have hp_ : Kd.R (Kd.int .i64) 3 w20 w.heap.size (fun _ => True) (.slice (some ⟨go17, 0, none⟩) x5_1.length co18) y304 := (by rw [hw, Ny304.out]; exact HP19.1); clear HP19; replace BK299 := A0_ (blk_grown (g := gb299) (o := .cells #[.slice A0_0 l0_0.length c0_0, .slice A0_1 l0_1.length c0_1] 29 (0, 0)) (zK_ BK299) hg (Kd.R_ne HO_5.out BK299.out (by decide))); replace HO_5 := A0_ (hp_); replace HB := A0_ ((by rw [hw]; exact bS (HB.out) GB17.out : Below w.heap.size w w20)); clear hg hw hp_) | ((with_reducible refine gD (N := 28) rfl ?_); refine Kd.R_lit (Kd.int .i64) _ 3 ?hg (N := 28) ?hd (xs := ([a1] : List Int)) (inner := [.int .i64 a1]) (ok := fun _ => True) (okp := fun _ => True) ?hr ?hp (fun _ hk => hk) trivial (Below.refl _ _) (Nat.le_refl _) (by simp) ?_; (case hd => rfl); (case hg => rfl); (case hr => first | (go_simp; done) | (go_simp; rfl)); (case hp => exact (Reps.one (show Kd.M (Kd.int .i64) _ _ _ a1 [.int .i64 a1] from rfl) (Reps.none _ _))); intro v306 w21 ho22 hb hg_ hnew_; clear hg_ hnew_; (first | rw [← Ny305.out] at ho22 | (simp only [Int.reduceToNat] at ho22; rw [← Ny305.out] at ho22)); have HO307 := A0_ (rL (Kd.R_new' ho22 (rX (zR_ HO_5))) (bZ (zB_ HB))); replace HO_5 := A0_ (Kd.R_elder' (zR_ HO_5) (Kd.R_base ho22) hb); replace BK299 := zK BK299 hb; replace HB := zB HB hb; clear hb ho22))
       go_loopg [7, 8] k1 (fun kq v7 v8 w' => ∃ (x5_2 : List Int) (x7_2 : List Int) (x8_2 : Int), v8 = .int .i64 x8_2 ∧ Aside0 (spec_l2Names.l1 kq x5_2 x7_2 x8_2 l0_0 l0_1 = some r) ∧ Aside0 (kq ≤ k1) ∧ Aside0 (Kd.R (Kd.int .i64) 3 w' w.heap.size (fun k_ => some k_ ≠ (v7 : Value).ownBlock) (.slice (some ⟨go17, 0, none⟩) x5_1.length co18) x5_2) ∧ Aside0 (Kd.R (Kd.int .i64) 3 w' w.heap.size (fun k_ => some k_ ≠ ((.slice (some ⟨go17, 0, none⟩) x5_1.length co18) : Value).ownBlock) v7 x7_2) ∧ Aside0 (w'.heap[gb299]? = some (.cells #[(.slice A0_0 l0_0.length c0_0), (.slice A0_1 l0_1.length c0_1)] 29 (0, 0))) ∧ Aside0 (Below w.heap.size w w'))
       case atStart => exact ⟨(y304), (y305), (0), zt, H', ⟨Nat.le_refl _⟩, ⟨zmR HO_5 (fun _ hk => hk.2)⟩, ⟨zmR HO307 (fun _ hk => hk.2)⟩, ⟨zK_ BK299⟩, ⟨zB_ HB⟩⟩
       case round =>
        clear H'; (try clear c1); (try clear p1); (try clear q1); (try clear hx1); (try clear p2); (try clear c3); (try clear c3b0); (try clear c3b1); (try clear c4); (try clear c4b0); (try clear c4b1); (try clear p6); (try clear c8); (try clear c9); (try clear c9b0); (try clear c10); (try clear c10b0); (try clear p11); (try clear q11); (try clear hx11); (try clear hf11); (try clear c15); (try clear c15b0); (try clear c16); (try clear c16b0); (try clear p17); (try clear q17); (try clear hx17); (try clear hf17); (try clear hcz6_0); (try clear hcz6_1); (try clear hfz6_0); (try clear hfz6_1); (try clear hx11_0); (try clear hx17_0); (try clear p11); (try clear p17); (try clear p2); (try clear q11); (try clear q17); obtain ⟨x5_2, x7_2, x8_2, rfl, HA, HK2, HO_5, HO_7, BK299, HB⟩ := hrel; have hl5_2 := (rR HO_5.out).1; rw [hl5_2] at HO_5; (try simp only [hl5_2]); (try simp only [hl5_2] at BK299); (try simp only [hl5_2] at HO_7)
        cases gk with
        | zero => exact absurd HA.out (by simp [spec_l2Names.l1])
        | succ k2 =>
         have H := HA.out; clear HA; simp only [spec_l2Names.l1] at H
         by_cases c23 : x8_2 < (x7_2.length : Int)
         ·rw [if_pos c23] at H
          have c23b0 := dT c23; (try simp only [hl5_2] at c23b0); clear c23
          by_cases c24 : 0 ≤ x8_2
          ·rw [if_pos c24] at H
           have c24b0 := dT c24; clear c24
           by_cases c25 : 0 ≤ (rd x7_2 x8_2)
           ·rw [if_pos c25] at H
            have c25b0 := dT c25; clear c25
            by_cases c26 : (rd x7_2 x8_2) < (l0_0.length : Int)
            ·rw [if_pos c26] at H
             have c26b0 := dT c26; (try simp only [hl5_2] at c26b0); clear c26
             by_cases c27 : (rd x7_2 x8_2) < (l0_1.length : Int)
             ·rw [if_pos c27] at H
              have c27b0 := dT c27; (try simp only [hl5_2] at c27b0); clear c27
              obtain ⟨y312, hy312⟩ : ∃ y_ : List Int, y_ = (([rd l0_0 (rd x7_2 x8_2), rd l0_1 (rd x7_2 x8_2)] : List Int)) := ⟨_, rfl⟩
              replace H : (spec_l2Names.l2 k2 x5_2 x7_2 x8_2 y312 0 l0_0 l0_1) = some r := zH hy312 H
              have Ny312 := A0_ hy312; clear hy312; have H' := A0_ H; clear H; obtain ⟨Ao28, co28, eo28⟩ := rS HO_7.out; subst eo28
              try go_wp2
              replace HO_5 := A0_ (rD HO_5.out)
              replace HO_7 := A0_ (rD HO_7.out)
              replace BK299 := A0_ (kD BK299.out)
              replace HB := A0_ (bD HB.out)
              have p308 : 0 ≤ (x8_2 : Int) := zd
              have q308 : x8_2 < (x7_2.length : Int) := zd
              obtain ⟨ad308, e308, hx308_0⟩ := tI (rR HO_7.out).2.2 x8_2 p308 q308
              cases e308
              replace p308 := eq_true p308; replace q308 := eq_true q308
              have p309 : 0 ≤ ((rd x7_2 x8_2) : Int) := zd
              have q309 : (rd x7_2 x8_2) < (l0_0.length : Int) := zd
              obtain ⟨ad309, e309, hx309_0⟩ := tI HR0_0.out (rd x7_2 x8_2) p309 q309
              have hw309_0 := hx309_0
              cases e309
              try replace hx309_0 := (HB.out.cell (wL w _ hx309_0)).trans hx309_0
              replace p309 := eq_true p309; replace q309 := eq_true q309
              have p310 : 0 ≤ (x8_2 : Int) := zd
              have q310 : x8_2 < (x7_2.length : Int) := zd
              obtain ⟨ad310, e310, hx310_0⟩ := tI (rR HO_7.out).2.2 x8_2 p310 q310
              obtain rfl : ad308 = ad310 := (by injection e310)
              replace p310 := eq_true p310; replace q310 := eq_true q310
              have p311 : 0 ≤ ((rd x7_2 x8_2) : Int) := zd
              have q311 : (rd x7_2 x8_2) < (l0_1.length : Int) := zd
              obtain ⟨ad311, e311, hx311_0⟩ := tI HR0_1.out (rd x7_2 x8_2) p311 q311
              have hw311_0 := hx311_0
              cases e311
              try replace hx311_0 := (HB.out.cell (wL w _ hx311_0)).trans hx311_0
              replace p311 := eq_true p311; replace q311 := eq_true q311
              refine start_ (n := 18) (S := fun w' => w'.cell? ⟨gb299, 0, none⟩ = some (.slice (some ad309) l0_0.length c0_0) ∧ w'.cell? ⟨gb299, 1, none⟩ = some (.slice (some ad311) l0_1.length c0_1) ∧ w'.cell? (ad308.add (x8_2).toNat) = some (.int .i64 (rd x7_2 x8_2)) ∧ w'.cell? (ad309.add ((rd x7_2 x8_2)).toNat) = some (.int .i64 (rd l0_0 (rd x7_2 x8_2))) ∧ w'.cell? (ad308.add (x8_2).toNat) = some (.int .i64 (rd x7_2 x8_2)) ∧ w'.cell? (ad311.add ((rd x7_2 x8_2)).toNat) = some (.int .i64 (rd l0_1 (rd x7_2 x8_2)))) (ds := []) #[false, false, false, false, false, false, false, false, false, false, false, false, false, false, false, false, false, false] (by kernel_rfl) rfl rfl ⟨(kC BK299.out 0).trans rfl, (kC BK299.out 1).trans rfl, hx308_0, ((HB.out.cell (wL w _ hw309_0)).trans hw309_0), hx310_0, ((HB.out.cell (wL w _ hw311_0)).trans hw311_0)⟩ (fun hHeld => ?_); refine with_tabW spec_l2Names.tab11 spec_l2Names.bits11 (fun HT_ HW_ => ?_)
              generalize wr.drew = w29 at HO_5 HO_7 BK299 HB hx308_0 hx309_0 hx310_0 hx311_0 hHeld ⊢
              refine zP 0 (some 35) #[true,false,false,false,false,false,false,false,false,false,false,false,false,false,false,false,false,false] ?_
              refine zP 2 (some 37) #[true,false,true,false,false,false,false,false,false,false,false,false,false,false,false,false,false,false] ?_
              refine zP 3 (some 38) #[true,false,true,true,false,false,false,false,false,false,false,false,false,false,false,false,false,false] ?_
              refine zP 4 (some 39) #[true,false,true,true,true,false,false,false,false,false,false,false,false,false,false,false,false,false] ?_
              refine zP 8 (some 43) #[true,false,true,true,true,false,false,false,true,false,false,false,false,false,false,false,false,false] ?_
              refine zP 10 (some 45) #[true,false,true,true,true,false,false,false,true,false,true,false,false,false,false,false,false,false] ?_
              refine zP 11 (some 46) #[true,false,true,true,true,false,false,false,true,false,true,true,false,false,false,false,false,false] ?_
              refine zP 12 (some 47) #[true,false,true,true,true,false,false,false,true,false,true,true,true,false,false,false,false,false] ?_
              refine take_ (i := 1) (N := some 36) (v := ?_) (a' := ?_) #[true, true, true, true, true, false, false, false, true, false, true, true, true, false, false, false, false, false] rfl rfl (take_ofW HT_.out HW_.out (by kernel_rfl)) (fun _ _ _ h => h) (Or.inl ⟨by rfl, ?_⟩) hHeld ?_ ?_
              rotate_left
              ·rintro w' ⟨s0, s1, s2, s3, s4, s5⟩
               go_simp
               with_reducible rfl
              rotate_left
              ·simp only [Act.put, List.setIfInBounds_toArray, List.set_cons_zero, List.set_cons_succ, i64_w, i32_w]
               rfl
              refine take_ (i := 5) (N := some 40) (v := ?_) (a' := ?_) #[true, true, true, true, true, true, false, false, true, false, true, true, true, false, false, false, false, false] rfl rfl (take_ofW HT_.out HW_.out (by kernel_rfl)) (fun _ _ _ h => h) (Or.inl ⟨by rfl, ?_⟩) hHeld ?_ ?_
              rotate_left
              ·rintro w' ⟨s0, s1, s2, s3, s4, s5⟩
               go_simp
               with_reducible rfl
              rotate_left
              ·simp only [Act.put, List.setIfInBounds_toArray, List.set_cons_zero, List.set_cons_succ, i64_w, i32_w]
               rfl
              refine zP 6 (some 41) #[true,true,true,true,true,true,true,false,true,false,true,true,true,false,false,false,false,false] ?_
              refine take_ (i := 7) (N := some 42) (v := ?_) (a' := ?_) #[true, true, true, true, true, true, true, true, true, false, true, true, true, false, false, false, false, false] rfl rfl (take_ofW HT_.out HW_.out (by kernel_rfl)) (fun _ _ _ h => h) (Or.inl ⟨by rfl, ?_⟩) hHeld ?_ ?_
              rotate_left
              ·rintro w' ⟨s0, s1, s2, s3, s4, s5⟩
               go_simp
               with_reducible rfl
              rotate_left
              ·simp only [Act.put, List.setIfInBounds_toArray, List.set_cons_zero, List.set_cons_succ, i64_w, i32_w]
               rfl
              refine take_ (i := 9) (N := some 44) (v := ?_) (a' := ?_) #[true, true, true, true, true, true, true, true, true, true, true, true, true, false, false, false, false, false] rfl rfl (take_ofW HT_.out HW_.out (by kernel_rfl)) (fun _ _ _ h => h) (Or.inl ⟨by rfl, ?_⟩) hHeld ?_ ?_
              rotate_left
              ·rintro w' ⟨s0, s1, s2, s3, s4, s5⟩
               go_simp
               with_reducible rfl
              rotate_left
              ·simp only [Act.put, List.setIfInBounds_toArray, List.set_cons_zero, List.set_cons_succ, i64_w, i32_w]
               rfl
              refine take_ (i := 13) (N := some 48) (v := ?_) (a' := ?_) #[true, true, true, true, true, true, true, true, true, true, true, true, true, true, false, false, false, false] rfl rfl (take_ofW HT_.out HW_.out (by kernel_rfl)) (fun _ _ _ h => h) (Or.inl ⟨by rfl, ?_⟩) hHeld ?_ ?_
              rotate_left
              ·rintro w' ⟨s0, s1, s2, s3, s4, s5⟩
               go_simp
               with_reducible rfl
              rotate_left
              ·simp only [Act.put, List.setIfInBounds_toArray, List.set_cons_zero, List.set_cons_succ, i64_w, i32_w]
               rfl
              refine zP 14 (some 49) #[true,true,true,true,true,true,true,true,true,true,true,true,true,true,true,false,false,false] ?_
              refine take_ (i := 15) (N := some 50) (v := ?_) (a' := ?_) #[true, true, true, true, true, true, true, true, true, true, true, true, true, true, true, true, false, false] rfl rfl (take_ofW HT_.out HW_.out (by kernel_rfl)) (fun _ _ _ h => h) (Or.inl ⟨by rfl, ?_⟩) hHeld ?_ ?_
              rotate_left
              ·rintro w' ⟨s0, s1, s2, s3, s4, s5⟩
               go_simp
               with_reducible rfl
              rotate_left
              ·simp only [Act.put, List.setIfInBounds_toArray, List.set_cons_zero, List.set_cons_succ, i64_w, i32_w]
               rfl
              refine one_ (i := 16) (N := some 51) #[true, true, true, true, true, true, true, true, true, true, true, true, true, true, true, true, true, false] rfl rfl (one_of HT_.out (by kernel_rfl)) (by decide) (fun K hK => ?_)
              refine Kd.R_lit_step (Kd.int .i64) _ 3 ?hg (N := 51) ?hd (xs := ([rd l0_0 (rd x7_2 x8_2), rd l0_1 (rd x7_2 x8_2)] : List Int)) (inner := [.int .i64 (rd l0_0 (rd x7_2 x8_2)), .int .i64 (rd l0_1 (rd x7_2 x8_2))]) (ok := fun _ => True) (okp := fun _ => True) ?hr ?hp (fun _ hk => hk) trivial (Below.refl _ _) (Nat.le_refl _) (by simp) ?_; (case hd => rfl); (case hg => rfl); (case hr => first | (go_simp; done) | (go_simp; rfl)); (case hp => exact (Reps.one (show Kd.M (Kd.int .i64) _ _ _ (rd l0_0 (rd x7_2 x8_2)) [.int .i64 (rd l0_0 (rd x7_2 x8_2))] from rfl) (Reps.one (show Kd.M (Kd.int .i64) _ _ _ (rd l0_1 (rd x7_2 x8_2)) [.int .i64 (rd l0_1 (rd x7_2 x8_2))] from rfl) (Reps.none _ _))))
              intro v313 w30 ho31 hb hg_ hnew_
              have HS2_ := (hb.cell (wL _ _ (hHeld.2.2.1))).trans (hHeld.2.2.1)
              have HS4_ := (hb.cell (wL _ _ (hHeld.2.2.2.2.1))).trans (hHeld.2.2.2.2.1)
              clear hg_ hnew_
              (first | rw [← Ny312.out] at ho31 | (simp only [Int.reduceToNat] at ho31; rw [← Ny312.out] at ho31))
              have HO314 := A0_ (rL (Kd.R_new' (Kd.R_new' ho31 (rX (zR_ HO_5))) (rX (zR_ HO_7))) (bZ (zB_ HB)))
              replace HO_5 := A0_ (Kd.R_elder' (zR_ HO_5) (Kd.R_base ho31) hb)
              replace HO_7 := A0_ (Kd.R_elder' (zR_ HO_7) (Kd.R_base ho31) hb)
              replace BK299 := zK BK299 hb; replace HB := zB HB hb; clear hb ho31
              refine hK.out _ _ ⟨(kC BK299.out 0).trans rfl, (kC BK299.out 1).trans rfl, HS2_, ((HB.out.cell (wL w _ hw309_0)).trans hw309_0), HS4_, ((HB.out.cell (wL w _ hw311_0)).trans hw311_0)⟩ (fun hHeld => ?_)
              clear hK K
              refine norm_ (a' := ?_) ?_ ?_
              rotate_left
              ·show Act.put _ (some 51) _ = _
               simp only [Act.put, List.setIfInBounds_toArray, List.set_cons_zero, List.set_cons_succ, i64_w, i32_w]
               rfl
              refine zP 17 (some 9) #[true,true,true,true,true,true,true,true,true,true,true,true,true,true,true,true,true,true] ?_
              refine done_ (done_of HT_.out (by kernel_rfl)) ?_
              try go_wp2
              (try generalize Value.pointer (some (ad308.add (x8_2 : Int).toNat)) = pz_)
              (try generalize Value.pointer (some (ad310.add (x8_2 : Int).toNat)) = pz_)
              go_loopg [7, 10] k2 (fun kq v7 v10 w' => ∃ (x5_3 : List Int) (x7_3 : List Int) (x10_3 : Int), v10 = .int .i64 x10_3 ∧ Aside0 (spec_l2Names.l2 kq x5_3 x7_3 x8_2 y312 x10_3 l0_0 l0_1 = some r) ∧ Aside0 (kq ≤ k2) ∧ Aside0 (Kd.R (Kd.int .i64) 3 w' w.heap.size (fun k_ => some k_ ≠ (v7 : Value).ownBlock ∧ some k_ ≠ (v313 : Value).ownBlock) (.slice (some ⟨go17, 0, none⟩) x5_2.length co18) x5_3) ∧ Aside0 (Kd.R (Kd.int .i64) 3 w' w.heap.size (fun k_ => some k_ ≠ ((.slice (some ⟨go17, 0, none⟩) x5_2.length co18) : Value).ownBlock ∧ some k_ ≠ (v313 : Value).ownBlock) v7 x7_3) ∧ Aside0 (Kd.R (Kd.int .i64) 3 w' w.heap.size (fun k_ => some k_ ≠ ((.slice (some ⟨go17, 0, none⟩) x5_2.length co18) : Value).ownBlock ∧ some k_ ≠ (v7 : Value).ownBlock) v313 y312) ∧ Aside0 (w'.heap[gb299]? = some (.cells #[(.slice (some ad309) l0_0.length c0_0), (.slice (some ad311) l0_1.length c0_1)] 29 (0, 0))) ∧ Aside0 (Below w.heap.size w w'))
              case atStart => exact ⟨(x5_2), (x7_2), (0), zt, H', ⟨Nat.le_refl _⟩, ⟨by (try simp only [hl5_2]); (with_reducible repeat (first | apply rA | apply rN | apply rD)); exact HO_5.out⟩, ⟨by (try simp only [hl5_2]); (with_reducible repeat (first | apply rA | apply rN | apply rD)); exact HO_7.out⟩, ⟨by (try simp only [hl5_2]); (with_reducible repeat (first | apply rA | apply rN | apply rD)); exact rM HO314.out (fun _ hk => ⟨hk.1.2, hk.2⟩)⟩, ⟨by (try simp only [hl5_2]); (with_reducible repeat (first | refine kN ?_ _ | refine kD ?_ | refine kA ?_ _)); exact BK299.out⟩, ⟨zB_ HB⟩⟩
              case round =>
               clear H'; (try clear c1); (try clear p1); (try clear q1); (try clear hx1); (try clear c2); (try clear p2); (try clear c3); (try clear c3b0); (try clear c3b1); (try clear p3); (try clear q3); (try clear hx3); (try clear c4); (try clear c4b0); (try clear c4b1); (try clear p6); (try clear c8); (try clear c9); (try clear c9b0); (try clear c10); (try clear c10b0); (try clear p11); (try clear q11); (try clear hx11); (try clear hf11); (try clear c15); (try clear c15b0); (try clear c16); (try clear c16b0); (try clear p17); (try clear q17); (try clear hx17); (try clear hf17); (try clear c23); (try clear c23b0); (try clear c24); (try clear c24b0); (try clear c25); (try clear c25b0); (try clear c26); (try clear c26b0); (try clear c27); (try clear c27b0); (try clear p30); (try clear q30); (try clear hx30); (try clear p31); (try clear q31); (try clear hx31); (try clear hcz6_0); (try clear hcz6_1); (try clear hfz6_0); (try clear hfz6_1); (try clear hx11_0); (try clear hx17_0); (try clear hx308_0); (try clear hx309_0); (try clear hx310_0); (try clear hx311_0); (try clear p1); (try clear p11); (try clear p17); (try clear p2); (try clear p308); (try clear p309); (try clear p310); (try clear p311); (try clear p6); (try clear q1); (try clear q11); (try clear q17); (try clear q308); (try clear q309); (try clear q310); (try clear q311); obtain ⟨x5_3, x7_3, x10_3, rfl, HA, HK3, HO_5, HO_7, HO_9, BK299, HB⟩ := hrel; have hl5_3 := (rR HO_5.out).1; rw [hl5_3] at HO_5; (try simp only [hl5_3]); (try simp only [hl5_3] at BK299); (try simp only [hl5_3] at HO_7); (try simp only [hl5_3] at HO_9)
               cases gk with
               | zero => exact absurd HA.out (by simp [spec_l2Names.l2])
               | succ k3 =>
                have H := HA.out; clear HA; simp only [spec_l2Names.l2] at H
                by_cases c32 : x10_3 < 2
                ·rw [if_pos c32] at H
                 have c32b0 := dT c32; clear c32
                 by_cases c33 : 0 ≤ x10_3
                 ·rw [if_pos c33] at H
                  have c33b0 := dT c33; clear c33
                  by_cases c34 : x10_3 < (y312.length : Int)
                  ·rw [if_pos c34] at H
                   have c34b0 := dT c34; (try simp only [hl5_2] at c34b0); (try simp only [hl5_3] at c34b0); clear c34
                   by_cases c35 : 0 ≤ (rd y312 x10_3)
                   ·rw [if_pos c35] at H
                    have c35b0 := dT c35; clear c35
                    by_cases c36 : (rd y312 x10_3) < (x5_3.length : Int)
                    ·rw [if_pos c36] at H
                     have c36b0 := dT c36; (try simp only [hl5_2] at c36b0); (try simp only [hl5_3] at c36b0); clear c36
                     by_cases c37 : (rd x5_3 (rd y312 x10_3)) < 0
                     ·rw [if_pos c37] at H
                      have c37b0 := dT c37; clear c37
                      obtain ⟨y318, hy318⟩ : ∃ y_ : List Int, y_ = (x5_3.set ((rd y312 x10_3) : Int).toNat (x7_3.length : Int)) := ⟨_, rfl⟩
                      replace H : (if x7_3.length < 17592186044416 then (spec_l2Names.l2 k3 y318 (x7_3 ++ [rd y312 x10_3]) x8_2 y312 (wrap64 (x10_3 + 1)) l0_0 l0_1) else (none)) = some r := zH hy318 H
                      have Ny318 := A0_ hy318; clear hy318
                      by_cases c39 : x7_3.length < 17592186044416
                      ·rw [if_pos c39] at H
                       have LMc39 := A0_ c39; clear c39
                       obtain ⟨y320, hy320⟩ : ∃ y_ : List Int, y_ = (x7_3 ++ [rd y312 x10_3]) := ⟨_, rfl⟩
                       replace H : (spec_l2Names.l2 k3 y318 y320 x8_2 y312 (wrap64 (x10_3 + 1)) l0_0 l0_1) = some r := zH hy320 H
                       have Ny320 := A0_ hy320; clear hy320; have H' := A0_ H; clear H; obtain ⟨Ao40, co40, eo40⟩ := rS HO_9.out; subst eo40
                       have p315 : 0 ≤ (x10_3 : Int) := zd
                       have q315 : x10_3 < (y312.length : Int) := zd
                       obtain ⟨ad315, e315, hx315_0⟩ := tI (rR HO_9.out).2.2 x10_3 p315 q315
                       cases e315
                       replace p315 := eq_true p315; replace q315 := eq_true q315
                       have p316 : 0 ≤ ((rd y312 x10_3) : Int) := zd
                       have q316 : (rd y312 x10_3) < (x5_3.length : Int) := zd
                       obtain ⟨ad316, e316, hx316_0⟩ := tI (rR HO_5.out).2.2 (rd y312 x10_3) p316 q316
                       obtain rfl : (⟨go17, 0, none⟩ : Addr) = ad316 := (by injection e316)
                       (first | simp only [add_plain] at hx316_0 | simp only [add_at] at hx316_0 | simp only [Addr.add, Nat.zero_add] at hx316_0 | skip)
                       replace p316 := eq_true p316; replace q316 := eq_true q316
                       have p317 : 0 ≤ (x10_3 : Int) := zd
                       have q317 : x10_3 < (y312.length : Int) := zd
                       obtain ⟨ad317, e317, hx317_0⟩ := tI (rR HO_9.out).2.2 x10_3 p317 q317
                       obtain rfl : ad315 = ad317 := (by injection e317)
                       replace p317 := eq_true p317; replace q317 := eq_true q317; obtain ⟨Ao41, co41, eo41⟩ := rS HO_7.out; subst eo41
                       have p38 : 0 ≤ ((rd y312 x10_3) : Int) := zd
                       have q38 : ((rd y312 x10_3) : Int) < ((x5_3.length : Int) : Int) := zd
                       obtain ⟨hx38_0, hf38_0⟩ := Kd.R_celln 0 HO_5.out ((rd y312 x10_3) : Int) p38 q38
                       replace p38 := eq_true p38; replace q38 := eq_true q38
                       have HP42 := Kd.R_putg HO_5.out ((rd y312 x10_3) : Int) (x7_3.length : Int)
                       go_wp2_with (first | ((with_reducible refine gS (t := 3) (p := 71) rfl ?_); refine store_event (t := 3) (p := 71) (v := ?vo_w43) (w1 := (wr.setCell ⟨go17, ((rd y312 x10_3) : Int).toNat, none⟩ (.int .i64 (x7_3.length : Int)))) ?hg ?ho ?hn ?hr ?_; (case ho => rfl); (case hg => rfl); (case hn => rfl); (case hr => first | (go_simp; done) | (go_simp; rfl)); intro w43 hw; have hg : wr.grownBy w43 (some go17) := (by rw [hw]; exact HP42.2); have hp_ : Kd.R (Kd.int .i64) 3 w43 w.heap.size (fun k_ => some k_ ≠ (.slice Ao41 x7_3.length co41 : Value).ownBlock ∧ some k_ ≠ (.slice (some ad315) y312.length co40 : Value).ownBlock) (.slice (some ⟨go17, 0, none⟩) x5_3.length co18) y318 := (by rw [hw, Ny318.out]; exact HP42.1); clear HP42; replace HO_7 := A0_ (Kd.R_after (v := (.slice (some ⟨go17, 0, none⟩) x5_3.length co18)) (v1 := (.slice (some ⟨go17, 0, none⟩) x5_3.length co18)) (ok := (fun k_ => some k_ ≠ (.slice (some ad315) y312.length co40 : Value).ownBlock)) (zmR HO_7 (fun _ hk => ⟨hk.2, hk.1⟩)) hg (.inl rfl)); replace HO_9 := A0_ (Kd.R_after (v := (.slice (some ⟨go17, 0, none⟩) x5_3.length co18)) (v1 := (.slice (some ⟨go17, 0, none⟩) x5_3.length co18)) (ok := (fun k_ => some k_ ≠ (.slice Ao41 x7_3.length co41 : Value).ownBlock)) (zmR HO_9 (fun _ hk => ⟨hk.2, hk.1⟩)) hg (.inl rfl)); replace BK299 := A0_ (blk_grown (g := gb299) (o := .cells #[.slice (some ad309) l0_0.length c0_0, .slice (some ad311) l0_1.length c0_1] 29 (0, 0)) (zK_ BK299) hg (Kd.R_ne HO_5.out BK299.out (by decide))); replace HO_5 := A0_ (hp_); replace HB := A0_ ((by rw [hw]; exact bS (HB.out) GB17.out : Below w.heap.size w w43)); clear hg hw hp_; have p319 : 0 ≤ (x10_3 : Int) := zd; have q319 : x10_3 < (y312.length : Int) := zd; obtain ⟨ad319, e319, hx319_0⟩ := tI (rR HO_9.out).2.2 x10_3 p319 q319; obtain rfl : ad315 = ad319 := (by injection e319); replace p319 := eq_true p319; replace q319 := eq_true q319) | ((with_reducible refine gB (b := .append) (xs := #[.tmp 72, .tmp 77]) rfl ?_); at_builtin; refine Kd.R_append (Kd.int .i64) (w0 := w) w.heap.size rfl (.tmp 72) (.tmp 77) 22 3 (.int .i64 0) 8 rfl Try.underlying22 info3 rfl (by decide) (by omega) (.slice Ao41 x7_3.length co41) x7_3 (rd y312 x10_3) [.int .i64 (rd y312 x10_3)] (fun k_ => some k_ ≠ (.slice (some ⟨go17, 0, none⟩) x5_3.length co18 : Value).ownBlock ∧ some k_ ≠ (.slice (some ad315) y312.length co40 : Value).ownBlock) (fun _ => False) rfl rfl ?aP (fun _ hk => hk.elim) ?aF ?aO ?aB ?aS ?aL ?_; (case aP => exact rfl); (case aB => exact (zB_ HB)); (case aF => exact (fun k_ hk => ⟨Kd.fresh' (rX (zR_ HO_5)) k_ hk, Kd.fresh' (rX (zR_ HO_9)) k_ hk⟩)); (case aO => exact (zmR HO_7 (fun _ hk => ⟨hk.2, hk.1⟩))); (case aS => exact (bZ (zB_ HB))); (case aL => have := LMc39.out; omega); intro v321 w44 ho hb hg hat; rw [← Ny320.out] at ho; replace HO_5 := A0_ (Kd.R_after (ok := (fun k_ => some k_ ≠ (.slice (some ad315) y312.length co40 : Value).ownBlock)) (zmR HO_5 (fun _ hk => ⟨hk.2, hk.1⟩)) hg hat); replace HO_9 := A0_ (Kd.R_after (ok := (fun k_ => some k_ ≠ (.slice (some ⟨go17, 0, none⟩) x5_3.length co18 : Value).ownBlock)) (zmR HO_9 (fun _ hk => ⟨hk.2, hk.1⟩)) hg hat); replace BK299 := A0_ (blk_grown (g := gb299) (o := .cells #[.slice (some ad309) l0_0.length c0_0, .slice (some ad311) l0_1.length c0_1] 29 (0, 0)) (zK_ BK299) hg (Kd.R_ne HO_7.out BK299.out (by decide))); replace HB := A0_ (hb); have HO322 := A0_ (ho); clear HO_7 ho hb hg hat))
                       (try simp only [← hl5_3])
                       go_roundg k3
                       case measure => have := HK1.out; have := HK2.out; have := HK3.out; omega
                       case rel => exact ⟨(y318), (y320), (wrap64 (x10_3 + 1)), zt, H', ⟨by have := HK1.out; have := HK2.out; have := HK3.out; omega⟩, ⟨by (try simp only [hl5_2]); (try simp only [hl5_3]); (with_reducible repeat (first | apply rA | apply rN | apply rD)); exact rM HO_5.out (fun _ hk => ⟨hk.2, hk.1⟩)⟩, ⟨by (try simp only [hl5_2]); (try simp only [hl5_3]); (with_reducible repeat (first | apply rA | apply rN | apply rD)); exact HO322.out⟩, ⟨by (try simp only [hl5_2]); (try simp only [hl5_3]); (with_reducible repeat (first | apply rA | apply rN | apply rD)); exact HO_9.out⟩, ⟨by (try simp only [hl5_2]); (try simp only [hl5_3]); (with_reducible repeat (first | refine kN ?_ _ | refine kD ?_ | refine kA ?_ _)); exact BK299.out⟩, ⟨zB_ HB⟩⟩
                      rw [if_neg c39] at H
                      exact absurd H (by simp)
                     rw [if_neg c37] at H; have c37b0 := dF c37; clear c37; have H' := A0_ H; clear H; obtain ⟨Ao45, co45, eo45⟩ := rS HO_9.out; subst eo45
                     have p315 : 0 ≤ (x10_3 : Int) := zd
                     have q315 : x10_3 < (y312.length : Int) := zd
                     obtain ⟨ad315, e315, hx315_0⟩ := tI (rR HO_9.out).2.2 x10_3 p315 q315
                     cases e315
                     replace p315 := eq_true p315; replace q315 := eq_true q315
                     have p316 : 0 ≤ ((rd y312 x10_3) : Int) := zd
                     have q316 : (rd y312 x10_3) < (x5_3.length : Int) := zd
                     obtain ⟨ad316, e316, hx316_0⟩ := tI (rR HO_5.out).2.2 (rd y312 x10_3) p316 q316
                     obtain rfl : (⟨go17, 0, none⟩ : Addr) = ad316 := (by injection e316)
                     (first | simp only [add_plain] at hx316_0 | simp only [add_at] at hx316_0 | simp only [Addr.add, Nat.zero_add] at hx316_0 | skip)
                     replace p316 := eq_true p316; replace q316 := eq_true q316
                     go_wp2
                     (try simp only [← hl5_3])
                     go_roundg k3
                     case measure => have := HK1.out; have := HK2.out; have := HK3.out; omega
                     case rel => exact ⟨(x5_3), (x7_3), (wrap64 (x10_3 + 1)), zt, H', ⟨by have := HK1.out; have := HK2.out; have := HK3.out; omega⟩, ⟨by (try simp only [hl5_2]); (try simp only [hl5_3]); (with_reducible repeat (first | apply rA | apply rN | apply rD)); exact HO_5.out⟩, ⟨by (try simp only [hl5_2]); (try simp only [hl5_3]); (with_reducible repeat (first | apply rA | apply rN | apply rD)); exact HO_7.out⟩, ⟨by (try simp only [hl5_2]); (try simp only [hl5_3]); (with_reducible repeat (first | apply rA | apply rN | apply rD)); exact HO_9.out⟩, ⟨by (try simp only [hl5_2]); (try simp only [hl5_3]); (with_reducible repeat (first | refine kN ?_ _ | refine kD ?_ | refine kA ?_ _)); exact BK299.out⟩, ⟨zB_ HB⟩⟩
                    rw [if_neg c36] at H
                    exact absurd H (by simp)
                   rw [if_neg c35] at H
                   exact absurd H (by simp)
                  rw [if_neg c34] at H
                  exact absurd H (by simp)
                 rw [if_neg c33] at H
                 exact absurd H (by simp)
                rw [if_neg c32] at H; have c32b0 := dF c32; clear c32; have H' := A0_ H; clear H
                go_wp2
                (try simp only [← hl5_2, ← hl5_3])
                go_roundg k3
                case measure => have := HK1.out; have := HK2.out; have := HK3.out; omega
                case rel => exact ⟨(x5_3), (x7_3), (wrap64 (x8_2 + 1)), zt, H', ⟨by have := HK1.out; have := HK2.out; have := HK3.out; omega⟩, ⟨by (try simp only [hl5_2]); (try simp only [hl5_3]); (with_reducible repeat (first | apply rA | apply rN | apply rD)); exact rM HO_5.out (fun _ hk => hk.1)⟩, ⟨by (try simp only [hl5_2]); (try simp only [hl5_3]); (with_reducible repeat (first | apply rA | apply rN | apply rD)); exact rM HO_7.out (fun _ hk => hk.1)⟩, ⟨by (try simp only [hl5_2]); (try simp only [hl5_3]); (with_reducible repeat (first | refine kN ?_ _ | refine kD ?_ | refine kA ?_ _)); exact BK299.out⟩, ⟨zB_ HB⟩⟩
             rw [if_neg c27] at H
             exact absurd H (by simp)
            rw [if_neg c26] at H
            exact absurd H (by simp)
           rw [if_neg c25] at H
           exact absurd H (by simp)
          rw [if_neg c24] at H
          exact absurd H (by simp)
         rw [if_neg c23] at H; have c23b0 := dF c23; (try simp only [hl5_2] at c23b0); clear c23; obtain rfl := sI H; obtain ⟨Ao46, co46, eo46⟩ := rS HO_7.out; subst eo46
         go_wp2
         go_ret
         exact ⟨_, by first | rfl | (simp [*] <;> rfl), zmR HO_5 (fun _ hk => trivial), zB_ HB⟩
      rw [if_neg c16] at H
      exact absurd H (by simp)
     rw [if_neg c15] at H
     exact absurd H (by simp)
  rw [if_neg c4] at H
  exact absurd H (by simp)
 rw [if_neg c3] at H
 exact absurd H (by simp)

/-! ### spec_l9Volt: function 87 -/
def spec_l9Volt.f (k : Nat) (l0_0 : List Int) (l0_1 : List Int) (l1 : List (List Int)) (a2 : Int) : Option (List Int) := (spec_l7Edges.f k l0_0 l0_1).bind fun t324 => (if 0 ≤ a2 then (if a2 < (t324.length : Int) then (if a2 < (l0_1.length : Int) then (if a2 < (rd l0_1 a2) then (if 0 ≤ (rd t324 a2) then (if (rd t324 a2) < (l1.length : Int) then (some (rd_L1 l1 (rd t324 a2))) else (none)) else (none)) else (if 0 ≤ (rd t324 a2) then (if (rd t324 a2) < (l1.length : Int) then ((spec_l1Back.f k (rd_L1 l1 (rd t324 a2))).bind fun t331 => (some t331)) else (none)) else (none))) else (none)) else (none)) else (none))
set_option maxHeartbeats 8000000 in
set_option maxRecDepth 100000 in
theorem spec_l9Volt.calls (k : Nat) (A0_0 : Option Addr) (c0_0 : Nat) (l0_0 : List Int) (A0_1 : Option Addr) (c0_1 : Nat) (l0_1 : List Int) (P1_ : Nat → Prop) (A1 : Option Addr) (c1 : Nat) (l1 : List (List Int)) (a2 : Int) (r : List Int) (w : World) (hr0_0 : Kd.C (Kd.int .i64) w A0_0 l0_0.length l0_0) (hc0_0 : l0_0.length ≤ c0_0) (hr0_1 : Kd.C (Kd.int .i64) w A0_1 l0_1.length l0_1) (hc0_1 : l0_1.length ≤ c0_1) (hs1 : Kd.V (Kd.slice 3 (Kd.int .i64)) 22 w w.heap.size (fun k_ => P1_ k_) (.slice A1 l1.length c1) l1) (h : spec_l9Volt.f k l0_0 l0_1 l1 a2 = some r) :
    Calls Try.prog 87 #[.agg #[.slice A0_0 l0_0.length c0_0, .slice A0_1 l0_1.length c0_1], .slice A1 l1.length c1, .int .i64 a2] w fun e w' => ∃ v0_ : Value, e = .returned (v0_) ∧ Kd.V (Kd.int .i64) 3 w' w.heap.size (fun k_ => (P1_ k_ ∨ w.heap.size ≤ k_)) v0_ r ∧ Below w.heap.size w w' := by
 have hu29 := Try.underlying29; have HR0_0 := A0_ hr0_0; have HC0_0 := A0_ hc0_0; clear hr0_0 hc0_0; have HR0_1 := A0_ hr0_1; have HC0_1 := A0_ hc0_1; clear hr0_1 hc0_1
 have HO1 := A0_ (show Kd.V (Kd.slice 3 (Kd.int .i64)) 22 w w.heap.size (fun k_ => (P1_ k_ ∨ w.heap.size ≤ k_)) (.slice A1 l1.length c1) l1 from Kd.V_mono hs1 (fun k_ hk => .inl hk))
 have HB := A0_ (Below.refl w.heap.size w)
 have H : ((spec_l7Edges.f k l0_0 l0_1).bind fun t324 => (if 0 ≤ a2 then (if a2 < (t324.length : Int) then (if a2 < (l0_1.length : Int) then (if a2 < (rd l0_1 a2) then (if 0 ≤ (rd t324 a2) then (if (rd t324 a2) < (l1.length : Int) then (some (rd_L1 l1 (rd t324 a2))) else (none)) else (none)) else (if 0 ≤ (rd t324 a2) then (if (rd t324 a2) < (l1.length : Int) then ((spec_l1Back.f k (rd_L1 l1 (rd t324 a2))).bind fun t331 => (some t331)) else (none)) else (none))) else (none)) else (none)) else (none))) = some r := h
 clear h; obtain ⟨t324, A4, H⟩ := zbind H
 by_cases c5 : 0 ≤ a2
 ·rw [if_pos c5] at H
  have c5b0 := dT c5; clear c5
  by_cases c6 : a2 < (t324.length : Int)
  ·rw [if_pos c6] at H
   have c6b0 := dT c6; clear c6
   by_cases c7 : a2 < (l0_1.length : Int)
   ·rw [if_pos c7] at H
    have c7b0 := dT c7; clear c7
    by_cases c8 : a2 < (rd l0_1 a2)
    ·rw [if_pos c8] at H
     have c8b0 := dT c8; clear c8
     by_cases c9 : 0 ≤ (rd t324 a2)
     ·rw [if_pos c9] at H
      have c9b0 := dT c9; clear c9
      by_cases c10 : (rd t324 a2) < (l1.length : Int)
      ·rw [if_pos c10] at H
       have c10b0 := dT c10; clear c10; obtain rfl := sI H
       go_enter Try.func87, Try.ntmps87
       go_wp2_with (first | ((with_reducible refine gD (N := 3) rfl ?_); refine zX (N := 3) (cs := #[.slice A0_0 l0_0.length c0_0, .slice A0_1 l0_1.length c0_1]) (t := 29) ?_; intro gb323 hg w11 hbox hb; replace HO1 := A0_ (Kd.V_below (Kd.V_elderB (by (with_reducible repeat apply Kd.V_alloc); exact HO1.out) gb323 (Nat.le_of_eq hg.symm)) hb); have BK323 := A0_ (hbox); have GW323 := zG hg HB; have GE323 := zG hg HB; replace HB := zB HB hb; clear hb hbox hg; have hcz12_0 := zc0 BK323; have hcz12_1 := zc1 BK323; have hfz12_0 := kF BK323.out 0; have hfz12_1 := kF BK323.out 1) | ((with_reducible refine gC (f := 106) rfl ?_); refine zJ (some 9) Try.func106 #[.agg #[.slice A0_0 l0_0.length c0_0, .slice A0_1 l0_1.length c0_1]] ?_; (with_reducible refine (spec_l7Edges.calls k _ _ l0_0 _ _ l0_1 t324 _ ?side1 ?side2 ?side3 ?side4 A4.out).mono ?_); (case side1 => exact zC HR0_0 HB); (case side2 => exact HC0_0.out); (case side3 => exact zC HR0_1 HB); (case side4 => exact HC0_1.out); rintro e w13 ⟨v325, rfl, ho0, hb⟩; refine ⟨_, rfl, ?_⟩; replace HO1 := A0_ (Kd.V_elder' (by (with_reducible repeat apply Kd.V_alloc); exact HO1.out) (Kd.R_base ho0) hb); have HO326 := A0_ (rL (Kd.R_newM (M := fun k_ => (w.heap.size ≤ k_)) ho0 (bZ (zB_ HB)) (fun k_ h_ => h_)) (bZ (zB_ HB))); replace BK323 := zK BK323 hb; replace HB := zB HB hb; (try clear hb); (try clear ho0); obtain ⟨Ao14, co14, eo14⟩ := rS HO326.out; subst eo14; have p327 : 0 ≤ (a2 : Int) := zd; have q327 : a2 < (t324.length : Int) := zd; obtain ⟨ad327, e327, hx327_0⟩ := tI (rR HO326.out).2.2 a2 p327 q327; cases e327; replace p327 := eq_true p327; replace q327 := eq_true q327; have hcz15_0 := zc0 BK323; have hcz15_1 := zc1 BK323; have hfz15_0 := kF BK323.out 0; have hfz15_1 := kF BK323.out 1; have p328 : 0 ≤ (a2 : Int) := zd; have q328 : a2 < (l0_1.length : Int) := zd; obtain ⟨ad328, e328, hx328_0⟩ := tI HR0_1.out a2 p328 q328; cases e328; try replace hx328_0 := (HB.out.cell (wL w _ hx328_0)).trans hx328_0; replace p328 := eq_true p328; replace q328 := eq_true q328; have p329 : 0 ≤ ((rd t324 a2) : Int) := zd; have q329 : (rd t324 a2) < (l1.length : Int) := zd; obtain ⟨ad329, A329_0, c329_0, e329, hx329_0, hl329_0, hi329_0⟩ := at_L1 (Kd.V_reads' HO1.out).2.2 (rd t324 a2) p329 q329; cases e329; obtain ⟨ce329, hce329, hMe329, hcc329⟩ := Kd.V_get HO1.out [] (rd t324 a2) p329 (by first | exact q329 | exact zd | (have e_ := (Kd.V_reads' HO1.out).1; omega)); obtain ⟨ua329_0, uc329_0, rfl, ul329_0, ge329_0⟩ := Kd.FK_slice_open hMe329; have hv329_0 := hcc329 0 _ rfl; rw [Nat.add_zero, show ((Kd.slice 3 (Kd.int .i64))).sz = 1 from rfl, Nat.mul_one] at hv329_0; replace hv329_0 := sI (hv329_0.symm.trans hx329_0); injection hv329_0 with hva_ hvn_ hvc_; rw [hva_] at ge329_0; rw [hvc_] at ul329_0; have HL329_0 := A0_ (show Kd.V (Kd.int .i64) 3 _ w.heap.size _ _ (rd_L1 l1 (rd t324 a2)) from Kd.V_mk ul329_0 ge329_0); clear hva_ hvn_ hvc_ ge329_0 ul329_0 hcc329 hce329; have HR329_0 := A0_ hi329_0; have HC329_0 := A0_ hl329_0; clear hi329_0 hl329_0; replace p329 := eq_true p329; replace q329 := eq_true q329))
       go_ret
       exact ⟨_, by first | rfl | (simp [*] <;> rfl), by (with_reducible repeat (first | apply Kd.V_alloc | apply Kd.V_drewN | apply Kd.V_drew)); exact Kd.V_mono HL329_0.out (fun _ hk => hk.1.1), zB_ HB⟩
      rw [if_neg c10] at H
      exact absurd H (by simp)
     rw [if_neg c9] at H
     exact absurd H (by simp)
    rw [if_neg c8] at H; have c8b0 := dF c8; clear c8
    by_cases c16 : 0 ≤ (rd t324 a2)
    ·rw [if_pos c16] at H
     have c16b0 := dT c16; clear c16
     by_cases c17 : (rd t324 a2) < (l1.length : Int)
     ·rw [if_pos c17] at H
      have c17b0 := dT c17; clear c17; obtain ⟨t331, A18, H⟩ := zbind H; obtain rfl := sI H
      go_enter Try.func87, Try.ntmps87
      go_wp2_with (first | ((with_reducible refine gD (N := 3) rfl ?_); refine zX (N := 3) (cs := #[.slice A0_0 l0_0.length c0_0, .slice A0_1 l0_1.length c0_1]) (t := 29) ?_; intro gb323 hg w19 hbox hb; replace HO1 := A0_ (Kd.V_below (Kd.V_elderB (by (with_reducible repeat apply Kd.V_alloc); exact HO1.out) gb323 (Nat.le_of_eq hg.symm)) hb); have BK323 := A0_ (hbox); have GW323 := zG hg HB; have GE323 := zG hg HB; replace HB := zB HB hb; clear hb hbox hg; have hcz20_0 := zc0 BK323; have hcz20_1 := zc1 BK323; have hfz20_0 := kF BK323.out 0; have hfz20_1 := kF BK323.out 1) | ((with_reducible refine gC (f := 106) rfl ?_); refine zJ (some 9) Try.func106 #[.agg #[.slice A0_0 l0_0.length c0_0, .slice A0_1 l0_1.length c0_1]] ?_; (with_reducible refine (spec_l7Edges.calls k _ _ l0_0 _ _ l0_1 t324 _ ?side1 ?side2 ?side3 ?side4 A4.out).mono ?_); (case side1 => exact zC HR0_0 HB); (case side2 => exact HC0_0.out); (case side3 => exact zC HR0_1 HB); (case side4 => exact HC0_1.out); rintro e w21 ⟨v325, rfl, ho0, hb⟩; refine ⟨_, rfl, ?_⟩; replace HO1 := A0_ (Kd.V_elder' (by (with_reducible repeat apply Kd.V_alloc); exact HO1.out) (Kd.R_base ho0) hb); have HO326 := A0_ (rL (Kd.R_newM (M := fun k_ => (w.heap.size ≤ k_)) ho0 (bZ (zB_ HB)) (fun k_ h_ => h_)) (bZ (zB_ HB))); replace BK323 := zK BK323 hb; replace HB := zB HB hb; (try clear hb); (try clear ho0); obtain ⟨Ao22, co22, eo22⟩ := rS HO326.out; subst eo22; have p327 : 0 ≤ (a2 : Int) := zd; have q327 : a2 < (t324.length : Int) := zd; obtain ⟨ad327, e327, hx327_0⟩ := tI (rR HO326.out).2.2 a2 p327 q327; cases e327; replace p327 := eq_true p327; replace q327 := eq_true q327; have hcz23_0 := zc0 BK323; have hcz23_1 := zc1 BK323; have hfz23_0 := kF BK323.out 0; have hfz23_1 := kF BK323.out 1; have p328 : 0 ≤ (a2 : Int) := zd; have q328 : a2 < (l0_1.length : Int) := zd; obtain ⟨ad328, e328, hx328_0⟩ := tI HR0_1.out a2 p328 q328; cases e328; try replace hx328_0 := (HB.out.cell (wL w _ hx328_0)).trans hx328_0; replace p328 := eq_true p328; replace q328 := eq_true q328; have p330 : 0 ≤ ((rd t324 a2) : Int) := zd; have q330 : (rd t324 a2) < (l1.length : Int) := zd; obtain ⟨ad330, A330_0, c330_0, e330, hx330_0, hl330_0, hi330_0⟩ := at_L1 (Kd.V_reads' HO1.out).2.2 (rd t324 a2) p330 q330; cases e330; obtain ⟨ce330, hce330, hMe330, hcc330⟩ := Kd.V_get HO1.out [] (rd t324 a2) p330 (by first | exact q330 | exact zd | (have e_ := (Kd.V_reads' HO1.out).1; omega)); obtain ⟨ua330_0, uc330_0, rfl, ul330_0, ge330_0⟩ := Kd.FK_slice_open hMe330; have hv330_0 := hcc330 0 _ rfl; rw [Nat.add_zero, show ((Kd.slice 3 (Kd.int .i64))).sz = 1 from rfl, Nat.mul_one] at hv330_0; replace hv330_0 := sI (hv330_0.symm.trans hx330_0); injection hv330_0 with hva_ hvn_ hvc_; rw [hva_] at ge330_0; rw [hvc_] at ul330_0; have HL330_0 := A0_ (show Kd.V (Kd.int .i64) 3 _ w.heap.size _ _ (rd_L1 l1 (rd t324 a2)) from Kd.V_mk ul330_0 ge330_0); clear hva_ hvn_ hvc_ ge330_0 ul330_0 hcc330 hce330; have HR330_0 := A0_ hi330_0; have HC330_0 := A0_ hl330_0; clear hi330_0 hl330_0; replace p330 := eq_true p330; replace q330 := eq_true q330) | ((with_reducible refine gC (f := 85) rfl ?_); refine zJ (some 28) Try.func85 #[.slice A330_0 (rd_L1 l1 (rd t324 a2)).length c330_0] ?_; (with_reducible refine (spec_l1Back.calls k _ _ (rd_L1 l1 (rd t324 a2)) t331 _ ?side1 ?side2 A18.out).mono ?_); (case side1 => repeat (first | exact (by repeat (first | (with_reducible exact HR330_0.out) | (with_reducible refine cA ?_ _) | exact HR330_0.out)) | (with_reducible refine cA ?_ _))); (case side2 => exact HC330_0.out); rintro e w24 ⟨v332, rfl, ho0, hb⟩; refine ⟨_, rfl, ?_⟩; replace HO1 := A0_ (Kd.V_elder' (by (with_reducible repeat apply Kd.V_alloc); exact HO1.out) (Kd.R_base ho0) hb); replace HL330_0 := A0_ (Kd.V_elder' (by (with_reducible repeat apply Kd.V_alloc); exact HL330_0.out) (Kd.R_base ho0) hb); have HO333 := A0_ (rL (Kd.R_new' (Kd.R_newM (M := fun k_ => (w.heap.size ≤ k_)) ho0 (bZ (zB_ HB)) (fun k_ h_ => h_)) (rX (zR_ HO326))) (bZ (zB_ HB))); replace HO326 := A0_ (Kd.R_elder' (zR_ HO326) (Kd.R_base ho0) hb); replace BK323 := zK BK323 hb; replace HR330_0 := A0_ (cB (by repeat (first | (with_reducible exact HR330_0.out) | (with_reducible refine cA ?_ _) | exact HR330_0.out)) hb); replace HB := zB HB hb; (try clear hb); (try clear ho0)))
      go_ret
      exact ⟨_, by first | rfl | (simp [*] <;> rfl), Kd.V_mono (Kd.R_V (zmR HO333 (fun _ hk => hk.1.1))) (fun k_ hk => by first | exact ⟨(.inr (hk.1)), hk.2⟩ | exact (.inr (hk))), zB_ HB⟩
     rw [if_neg c17] at H
     exact absurd H (by simp)
    rw [if_neg c16] at H
    exact absurd H (by simp)
   rw [if_neg c7] at H
   exact absurd H (by simp)
  rw [if_neg c6] at H
  exact absurd H (by simp)
 rw [if_neg c5] at H
 exact absurd H (by simp)

end Go.Proofs.Ytmcgkckdnelcdaa.PFnExactCoverTree
