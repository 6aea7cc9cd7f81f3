-- Made by a program of this session (wip/tools) out of the loaded program; not trusted: Lean checks it.
import Derived.Test.YtikkokflcgcnbaaGreatDoorPFnExecuteFormx0
import Derived.Test.YtikkokflcgcnbaaGreatDoorPFnExecuteFormx12
-- packed
namespace Go.Proofs.YtikkokflcgcnbaaGreatDoor.PFnExecuteForm
open Go.RowKit Go.Proofs.YtikkokflcgcnbaaGreatDoorW.PrintWords Go.Proofs.YtikkokflcgcnbaaGreatDoorW.PrintLast Go.Proofs.YtikkokflcgcnbaaGreatDoorW.PrintMore
attribute [local go_sem] max2_int min2_int max_two min_two max_three min_three max_four min_four   -- for this text's walks alone
set_option linter.unusedVariables false
set_option linter.unusedSimpArgs false

/-! ### spec_l2Names: function 96 -/
mutual
def spec_l2Names.l0 : Nat → Int → List Int → Int → List Int → List Int → Option (List Int)
  | 0, _, _, _, _, _ => none
  | k + 1, x1, x5, x6, x415000, x415001 => if x6 < (x5.length : Int) then (if 0 ≤ x6 then (spec_l2Names.l0 k x1 (x5.set (x6 : Int).toNat (-1)) (wrap64 (x6 + 1)) x415000 x415001) else (none)) else (if 0 ≤ x1 then (if x1 < (x5.length : Int) then (spec_l2Names.l1 k (x5.set (x1 : Int).toNat 0) (([x1] : List Int)) 0 x415000 x415001) else (none)) else (none))
def spec_l2Names.l1 : Nat → List Int → List Int → Int → List Int → List Int → Option (List Int)
  | 0, _, _, _, _, _ => none
  | k + 1, x5, x7, x8, x415000, x415001 => if x8 < (x7.length : Int) then (if 0 ≤ x8 then (if 0 ≤ (rd x7 x8) then (if (rd x7 x8) < (x415000.length : Int) then (if (rd x7 x8) < (x415001.length : Int) then (spec_l2Names.l2 k x5 x7 x8 (([rd x415000 (rd x7 x8), rd x415001 (rd x7 x8)] : List Int)) 0 x415000 x415001) else (none)) else (none)) else (none)) else (none)) else (some x5)
def spec_l2Names.l2 : Nat → List Int → List Int → Int → List Int → Int → List Int → List Int → Option (List Int)
  | 0, _, _, _, _, _, _, _ => none
  | k + 1, x5, x7, x8, x9, x10, x415000, x415001 => if x10 < 2 then (if 0 ≤ x10 then (if x10 < (x9.length : Int) then (if 0 ≤ (rd x9 x10) then (if (rd x9 x10) < (x5.length : Int) then (if (rd x5 (rd x9 x10)) < 0 then (if x7.length < 17592186044416 then (spec_l2Names.l2 k (x5.set ((rd x9 x10) : Int).toNat (x7.length : Int)) (x7 ++ [rd x9 x10]) x8 x9 (wrap64 (x10 + 1)) x415000 x415001) else (none)) else (spec_l2Names.l2 k x5 x7 x8 x9 (wrap64 (x10 + 1)) x415000 x415001)) else (none)) else (none)) else (none)) else (none)) else (spec_l2Names.l1 k x5 x7 (wrap64 (x8 + 1)) x415000 x415001)
end
def spec_l2Names.f (k : Nat) (l0_0 : List Int) (l0_1 : List Int) (a1 : Int) : Option (List Int) := if 0 ≤ (l0_0.length : Int) then (if ((l0_0.length : Int) : Int).toNat ≤ 35184372088832 then (spec_l2Names.l0 k a1 (List.replicate ((l0_0.length : Int) : Int).toNat 0) 0 l0_0 l0_1) else (none)) else (none)
def spec_l2Names.T11 : Bool × List (List Nat × List Nat) := (true, [([], []), ([0], [0]), ([], []), ([], []), ([2, 3], [2, 3]), ([4], [4]), ([1, 5], [1, 5]), ([6], [6]), ([], []), ([8], [8]), ([], []), ([], []), ([10, 11], [10, 11]), ([12], [12]), ([9, 13], [9, 13]), ([14], [14]), ([7, 15], [7, 15]), ([16, 0, 1, 2, 3, 4, 5, 6, 7, 8, 9, 10, 11, 12, 13, 14, 15, 16], [16])])
def spec_l2Names.B11 : List Nat := [0, 1, 0, 0, 12, 28, 63, 127, 0, 256, 0, 0, 3072, 7168, 16128, 32512, 65535, 131071]
theorem spec_l2Names.tab11 : rtab .any (opsOf Tryz.f96 11) = spec_l2Names.T11 := by kernel_rfl
theorem spec_l2Names.bits11 : waitsOk spec_l2Names.T11.2 spec_l2Names.B11 = true := by kernel_rfl
set_option maxHeartbeats 8000000 in
set_option maxRecDepth 100000 in
theorem spec_l2Names.calls (k : Nat) (A0_0 : Option Addr) (c0_0 : Nat) (l0_0 : List Int) (A0_1 : Option Addr) (c0_1 : Nat) (l0_1 : List Int) (a1 : Int) (r : List Int) (w : World) (hr0_0 : Kd.C (Kd.int .i64) w A0_0 l0_0.length l0_0) (hc0_0 : l0_0.length ≤ c0_0) (hr0_1 : Kd.C (Kd.int .i64) w A0_1 l0_1.length l0_1) (hc0_1 : l0_1.length ≤ c0_1) (h : spec_l2Names.f k l0_0 l0_1 a1 = some r) :
    Calls Tryz.prog 96 #[.agg #[.slice A0_0 l0_0.length c0_0, .slice A0_1 l0_1.length c0_1], .int .i64 a1] w fun e w' => ∃ v0_ : Value, e = .returned (v0_) ∧ Kd.R (Kd.int .i64) 3 w' w.heap.size (fun _ => True) v0_ r ∧ Below w.heap.size w w' := by
 have hu25 := Tryz.underlying25; have HR0_0 := A0_ hr0_0; have HC0_0 := A0_ hc0_0; clear hr0_0 hc0_0; have HR0_1 := A0_ hr0_1; have HC0_1 := A0_ hc0_1; clear hr0_1 hc0_1
 have HB := A0_ (Below.refl w.heap.size w)
 have H : (if 0 ≤ (l0_0.length : Int) then (if ((l0_0.length : Int) : Int).toNat ≤ 35184372088832 then (spec_l2Names.l0 k a1 (List.replicate ((l0_0.length : Int) : Int).toNat 0) 0 l0_0 l0_1) else (none)) else (none)) = some r := h
 clear h
 by_cases c3 : 0 ≤ (l0_0.length : Int)
 ·rw [if_pos c3] at H
  have c3b0 := eq_true c3; have c3b1 := dT c3; clear c3
  by_cases c4 : ((l0_0.length : Int) : Int).toNat ≤ 35184372088832
  ·rw [if_pos c4] at H
   have c4b0 := eq_true c4; have c4b1 := dT c4; clear c4
   obtain ⟨y415, hy415⟩ : ∃ y_ : List Int, y_ = (List.replicate ((l0_0.length : Int) : Int).toNat 0) := ⟨_, rfl⟩
   replace H : (spec_l2Names.l0 k a1 y415 0 l0_0 l0_1) = some r := zH hy415 H
   have Ny415 := A0_ hy415; clear hy415; have H' := A0_ H; clear H
   go_enter Tryz.func96, Tryz.ntmps96
   go_wp2_with (first | ((with_reducible refine gD (N := 2) rfl ?_); refine zX (N := 2) (cs := #[.slice A0_0 l0_0.length c0_0, .slice A0_1 l0_1.length c0_1]) (t := 25) ?_; intro gb414 hg w5 hbox hb; have BK414 := A0_ (hbox); have GW414 := zG hg HB; have GE414 := zG hg HB; replace HB := zB HB hb; clear hb hbox hg; have hcz6_0 := zc0 BK414; have hcz6_1 := zc1 BK414; have hfz6_0 := kF BK414.out 0; have hfz6_1 := kF BK414.out 1) | ((with_reducible refine gD (N := 14) rfl ?_); refine Kd.R_make (Kd.int .i64) _ 3 rfl (N := 14) rfl 23 _ _ rfl (l0_0.length : Int) rfl rfl Tryz.underlying23 (.int .i64 0) 8 info3 rfl (by decide) (by omega) 0 (ok := fun _ => True) (okp := fun _ => True) rfl (fun _ hk => hk) trivial (zd) (Nat.le_trans (Nat.mul_le_mul_right _ (zd : (l0_0.length : Int).toNat ≤ 35184372088832)) (by omega)) (Below.refl _ _) (Nat.le_refl _) ?_; intro v416 w7 ho8 hb hg_ hnew_; clear hg_ hnew_; (first | rw [← Ny415.out] at ho8 | (simp only [Int.reduceToNat] at ho8; rw [← Ny415.out] at ho8)); have HO417 := A0_ (rL ho8 (bZ (zB_ HB))); replace BK414 := zK BK414 hb; replace HB := zB HB hb; clear hb ho8))
   go_loopg [6] k (fun kq v6 w' => ∃ (x5_1 : List Int) (x6_1 : Int), v6 = .int .i64 x6_1 ∧ Aside0 (spec_l2Names.l0 kq a1 x5_1 x6_1 l0_0 l0_1 = some r) ∧ Aside0 (kq ≤ k) ∧ Aside0 (Kd.R (Kd.int .i64) 3 w' w.heap.size (fun _ => True) v416 x5_1) ∧ Aside0 (w'.heap[gb414]? = some (.cells #[(.slice A0_0 l0_0.length c0_0), (.slice A0_1 l0_1.length c0_1)] 25 (0, 0))) ∧ Aside0 (Below w.heap.size w w'))
   case atStart => exact ⟨(y415), (0), zt, H', ⟨Nat.le_refl _⟩, ⟨zR_ HO417⟩, ⟨zK_ BK414⟩, ⟨zB_ HB⟩⟩
   case round =>
    clear H'; (try clear p2); (try clear c3); (try clear c3b0); (try clear c3b1); (try clear c4); (try clear c4b0); (try clear c4b1); (try clear hcz6_0); (try clear hcz6_1); (try clear hfz6_0); (try clear hfz6_1); obtain ⟨x5_1, x6_1, rfl, HA, HK1, HO_5, BK414, HB⟩ := hrel
    cases gk with
    | zero => exact absurd HA.out (by simp [spec_l2Names.l0])
    | succ k1 =>
     have H := HA.out; clear HA; simp only [spec_l2Names.l0] at H
     by_cases c9 : x6_1 < (x5_1.length : Int)
     ·rw [if_pos c9] at H
      have c9b0 := dT c9; clear c9
      by_cases c10 : 0 ≤ x6_1
      ·rw [if_pos c10] at H
       have c10b0 := dT c10; clear c10
       obtain ⟨y418, hy418⟩ : ∃ y_ : List Int, y_ = (x5_1.set (x6_1 : Int).toNat (-1)) := ⟨_, rfl⟩
       replace H : (spec_l2Names.l0 k1 a1 y418 (wrap64 (x6_1 + 1)) l0_0 l0_1) = some r := zH hy418 H
       have Ny418 := A0_ hy418; clear hy418; have H' := A0_ H; clear H; obtain ⟨Ao12, co12, eo12⟩ := rS HO_5.out; subst eo12
       have p11 : 0 ≤ (x6_1 : Int) := zd
       have q11 : (x6_1 : Int) < ((x5_1.length : Int) : Int) := zd
       obtain ⟨go11, co11, eo11, gb11, gl11, cl11, HG11⟩ := Kd.R_form HO_5.out (by omega)
       (first | cases eo11 | (injection eo11 with ea_ en_ ec_; (first | subst ea_ | (injection ea_ with ea_; subst ea_)); subst ec_; clear en_))
       have GB11 := A0_ gb11; have GG11 := A0_ HG11; clear gb11 gl11 HG11
       obtain ⟨hx11_0, hf11_0⟩ := Kd.R_celln 0 HO_5.out (x6_1 : Int) p11 q11
       replace p11 := eq_true p11; replace q11 := eq_true q11
       have HP13 := Kd.R_putg HO_5.out (x6_1 : Int) (-1)
       go_wp2_with (first | ((with_reducible refine gS (t := 3) (p := 23) rfl ?_); refine store_event (t := 3) (p := 23) (v := ?vo_w14) (w1 := (wr.setCell ⟨go11, (x6_1 : Int).toNat, none⟩ (.int .i64 (-1)))) ?hg ?ho ?hn ?hr ?_; (case ho => rfl); (case hg => rfl); (case hn => rfl); (case hr => first | (go_simp; done) | (go_simp; rfl)); intro w14 hw; have hg : wr.grownBy w14 (some go11) := (by rw [hw]; exact HP13.2); have hp_ : Kd.R (Kd.int .i64) 3 w14 w.heap.size (fun _ => True) (.slice (some ⟨go11, 0, none⟩) x5_1.length co12) y418 := (by rw [hw, Ny418.out]; exact HP13.1); clear HP13; replace BK414 := A0_ (blk_grown (g := gb414) (o := .cells #[.slice A0_0 l0_0.length c0_0, .slice A0_1 l0_1.length c0_1] 25 (0, 0)) (zK_ BK414) hg (Kd.R_ne HO_5.out BK414.out (by decide))); replace HO_5 := A0_ (hp_); replace HB := A0_ ((by rw [hw]; exact bS (HB.out) GB11.out : Below w.heap.size w w14)); clear hg hw hp_))
       go_roundg k1
       case measure => have := HK1.out; omega
       case rel => exact ⟨(y418), (wrap64 (x6_1 + 1)), zt, H', ⟨by have := HK1.out; omega⟩, ⟨zR_ HO_5⟩, ⟨zK_ BK414⟩, ⟨zB_ HB⟩⟩
      rw [if_neg c10] at H
      exact absurd H (by simp)
     rw [if_neg c9] at H; have c9b0 := dF c9; clear c9
     by_cases c15 : 0 ≤ a1
     ·rw [if_pos c15] at H
      have c15b0 := dT c15; clear c15
      by_cases c16 : a1 < (x5_1.length : Int)
      ·rw [if_pos c16] at H
       have c16b0 := dT c16; clear c16
       obtain ⟨y419, hy419⟩ : ∃ y_ : List Int, y_ = (x5_1.set (a1 : Int).toNat 0) := ⟨_, rfl⟩
       replace H : (spec_l2Names.l1 k1 y419 (([a1] : List Int)) 0 l0_0 l0_1) = some r := zH hy419 H
       have Ny419 := A0_ hy419; clear hy419
       obtain ⟨y420, hy420⟩ : ∃ y_ : List Int, y_ = (([a1] : List Int)) := ⟨_, rfl⟩
       replace H : (spec_l2Names.l1 k1 y419 y420 0 l0_0 l0_1) = some r := zH hy420 H
       have Ny420 := A0_ hy420; clear hy420; have H' := A0_ H; clear H; obtain ⟨Ao18, co18, eo18⟩ := rS HO_5.out; subst eo18
       have p17 : 0 ≤ (a1 : Int) := zd
       have q17 : (a1 : Int) < ((x5_1.length : Int) : Int) := zd
       obtain ⟨go17, co17, eo17, gb17, gl17, cl17, HG17⟩ := Kd.R_form HO_5.out (by omega)
       (first | cases eo17 | (injection eo17 with ea_ en_ ec_; (first | subst ea_ | (injection ea_ with ea_; subst ea_)); subst ec_; clear en_))
       have GB17 := A0_ gb17; have GG17 := A0_ HG17; clear gb17 gl17 HG17
       obtain ⟨hx17_0, hf17_0⟩ := Kd.R_celln 0 HO_5.out (a1 : Int) p17 q17
       replace p17 := eq_true p17; replace q17 := eq_true q17
       have HP19 := Kd.R_putg HO_5.out (a1 : Int) 0
       go_wp2_with (first | ((with_reducible refine gS (t := 3) (p := 26) rfl ?_); refine store_event (t := 3) (p := 26) (v := ?vo_w20) (w1 := (wr.setCell ⟨go17, (a1 : Int).toNat, none⟩ (.int .i64 0))) ?hg ?ho ?hn ?hr ?_; (case ho => rfl); (case hg => rfl); (case hn => rfl); (case hr => first | (go_simp; done) | (go_simp; rfl)); intro w20 hw; have hg : wr.grownBy w20 (some go17) := (by rw [hw]; exact HP19.2); have hp_ : Kd.R (Kd.int .i64) 3 w20 w.heap.size (fun _ => True) (.slice (some ⟨go17, 0, none⟩) x5_1.length co18) y419 := (by rw [hw, Ny419.out]; exact HP19.1); clear HP19; replace BK414 := A0_ (blk_grown (g := gb414) (o := .cells #[.slice A0_0 l0_0.length c0_0, .slice A0_1 l0_1.length c0_1] 25 (0, 0)) (zK_ BK414) hg (Kd.R_ne HO_5.out BK414.out (by decide))); replace HO_5 := A0_ (hp_); replace HB := A0_ ((by rw [hw]; exact bS (HB.out) GB17.out : Below w.heap.size w w20)); clear hg hw hp_) | ((with_reducible refine gD (N := 28) rfl ?_); refine Kd.R_lit (Kd.int .i64) _ 3 ?hg (N := 28) ?hd (xs := ([a1] : List Int)) (inner := [.int .i64 a1]) (ok := fun _ => True) (okp := fun _ => True) ?hr ?hp (fun _ hk => hk) trivial (Below.refl _ _) (Nat.le_refl _) (by simp) ?_; (case hd => rfl); (case hg => rfl); (case hr => first | (go_simp; done) | (go_simp; rfl)); (case hp => exact (Reps.one (show Kd.M (Kd.int .i64) _ _ _ a1 [.int .i64 a1] from rfl) (Reps.none _ _))); intro v421 w21 ho22 hb hg_ hnew_; clear hg_ hnew_; (first | rw [← Ny420.out] at ho22 | (simp only [Int.reduceToNat] at ho22; rw [← Ny420.out] at ho22)); have HO422 := A0_ (rL (Kd.R_new' ho22 (rX (zR_ HO_5))) (bZ (zB_ HB))); replace HO_5 := A0_ (Kd.R_elder' (zR_ HO_5) (Kd.R_base ho22) hb); replace BK414 := zK BK414 hb; replace HB := zB HB hb; clear hb ho22))
       go_loopg [7, 8] k1 (fun kq v7 v8 w' => ∃ (x5_2 : List Int) (x7_2 : List Int) (x8_2 : Int), v8 = .int .i64 x8_2 ∧ Aside0 (spec_l2Names.l1 kq x5_2 x7_2 x8_2 l0_0 l0_1 = some r) ∧ Aside0 (kq ≤ k1) ∧ Aside0 (Kd.R (Kd.int .i64) 3 w' w.heap.size (fun k_ => some k_ ≠ (v7 : Value).ownBlock) (.slice (some ⟨go17, 0, none⟩) x5_1.length co18) x5_2) ∧ Aside0 (Kd.R (Kd.int .i64) 3 w' w.heap.size (fun k_ => some k_ ≠ ((.slice (some ⟨go17, 0, none⟩) x5_1.length co18) : Value).ownBlock) v7 x7_2) ∧ Aside0 (w'.heap[gb414]? = some (.cells #[(.slice A0_0 l0_0.length c0_0), (.slice A0_1 l0_1.length c0_1)] 25 (0, 0))) ∧ Aside0 (Below w.heap.size w w'))
       case atStart => exact ⟨(y419), (y420), (0), zt, H', ⟨Nat.le_refl _⟩, ⟨zmR HO_5 (fun _ hk => hk.2)⟩, ⟨zmR HO422 (fun _ hk => hk.2)⟩, ⟨zK_ BK414⟩, ⟨zB_ HB⟩⟩
       case round =>
        clear H'; (try clear c1); (try clear p1); (try clear q1); (try clear hx1); (try clear p2); (try clear c3); (try clear c3b0); (try clear c3b1); (try clear c4); (try clear c4b0); (try clear c4b1); (try clear p6); (try clear c9); (try clear c9b0); (try clear c10); (try clear c10b0); (try clear p11); (try clear q11); (try clear hx11); (try clear hf11); (try clear c15); (try clear c15b0); (try clear c16); (try clear c16b0); (try clear p17); (try clear q17); (try clear hx17); (try clear hf17); (try clear hcz6_0); (try clear hcz6_1); (try clear hfz6_0); (try clear hfz6_1); (try clear hx11_0); (try clear hx17_0); (try clear p11); (try clear p17); (try clear p2); (try clear q11); (try clear q17); obtain ⟨x5_2, x7_2, x8_2, rfl, HA, HK2, HO_5, HO_7, BK414, HB⟩ := hrel; have hl5_2 := (rR HO_5.out).1; rw [hl5_2] at HO_5; (try simp only [hl5_2]); (try simp only [hl5_2] at BK414); (try simp only [hl5_2] at HO_7)
        cases gk with
        | zero => exact absurd HA.out (by simp [spec_l2Names.l1])
        | succ k2 =>
         have H := HA.out; clear HA; simp only [spec_l2Names.l1] at H
         by_cases c23 : x8_2 < (x7_2.length : Int)
         ·rw [if_pos c23] at H
          have c23b0 := dT c23; (try simp only [hl5_2] at c23b0); clear c23
          by_cases c24 : 0 ≤ x8_2
          ·rw [if_pos c24] at H
           have c24b0 := dT c24; clear c24
           by_cases c25 : 0 ≤ (rd x7_2 x8_2)
           ·rw [if_pos c25] at H
            have c25b0 := dT c25; clear c25
            by_cases c26 : (rd x7_2 x8_2) < (l0_0.length : Int)
            ·rw [if_pos c26] at H
             have c26b0 := dT c26; (try simp only [hl5_2] at c26b0); clear c26
             by_cases c27 : (rd x7_2 x8_2) < (l0_1.length : Int)
             ·rw [if_pos c27] at H
              have c27b0 := dT c27; (try simp only [hl5_2] at c27b0); clear c27
              obtain ⟨y427, hy427⟩ : ∃ y_ : List Int, y_ = (([rd l0_0 (rd x7_2 x8_2), rd l0_1 (rd x7_2 x8_2)] : List Int)) := ⟨_, rfl⟩
              replace H : (spec_l2Names.l2 k2 x5_2 x7_2 x8_2 y427 0 l0_0 l0_1) = some r := zH hy427 H
              have Ny427 := A0_ hy427; clear hy427; have H' := A0_ H; clear H; obtain ⟨Ao28, co28, eo28⟩ := rS HO_7.out; subst eo28
              try go_wp2
              replace HO_5 := A0_ (rD HO_5.out)
              replace HO_7 := A0_ (rD HO_7.out)
              replace BK414 := A0_ (kD BK414.out)
              replace HB := A0_ (bD HB.out)
              have p423 : 0 ≤ (x8_2 : Int) := zd
              have q423 : x8_2 < (x7_2.length : Int) := zd
              obtain ⟨ad423, e423, hx423_0⟩ := tI (rR HO_7.out).2.2 x8_2 p423 q423
              cases e423
              replace p423 := eq_true p423; replace q423 := eq_true q423
              have p424 : 0 ≤ ((rd x7_2 x8_2) : Int) := zd
              have q424 : (rd x7_2 x8_2) < (l0_0.length : Int) := zd
              obtain ⟨ad424, e424, hx424_0⟩ := tI HR0_0.out (rd x7_2 x8_2) p424 q424
              have hw424_0 := hx424_0
              cases e424
              try replace hx424_0 := (HB.out.cell (wL w _ hx424_0)).trans hx424_0
              replace p424 := eq_true p424; replace q424 := eq_true q424
              have p425 : 0 ≤ (x8_2 : Int) := zd
              have q425 : x8_2 < (x7_2.length : Int) := zd
              obtain ⟨ad425, e425, hx425_0⟩ := tI (rR HO_7.out).2.2 x8_2 p425 q425
              obtain rfl : ad423 = ad425 := (by injection e425)
              replace p425 := eq_true p425; replace q425 := eq_true q425
              have p426 : 0 ≤ ((rd x7_2 x8_2) : Int) := zd
              have q426 : (rd x7_2 x8_2) < (l0_1.length : Int) := zd
              obtain ⟨ad426, e426, hx426_0⟩ := tI HR0_1.out (rd x7_2 x8_2) p426 q426
              have hw426_0 := hx426_0
              cases e426
              try replace hx426_0 := (HB.out.cell (wL w _ hx426_0)).trans hx426_0
              replace p426 := eq_true p426; replace q426 := eq_true q426
              refine start_ (n := 18) (S := fun w' => w'.cell? ⟨gb414, 0, none⟩ = some (.slice (some ad424) l0_0.length c0_0) ∧ w'.cell? ⟨gb414, 1, none⟩ = some (.slice (some ad426) l0_1.length c0_1) ∧ w'.cell? (ad423.add (x8_2).toNat) = some (.int .i64 (rd x7_2 x8_2)) ∧ w'.cell? (ad424.add ((rd x7_2 x8_2)).toNat) = some (.int .i64 (rd l0_0 (rd x7_2 x8_2))) ∧ w'.cell? (ad423.add (x8_2).toNat) = some (.int .i64 (rd x7_2 x8_2)) ∧ w'.cell? (ad426.add ((rd x7_2 x8_2)).toNat) = some (.int .i64 (rd l0_1 (rd x7_2 x8_2)))) (ds := []) #[false, false, false, false, false, false, false, false, false, false, false, false, false, false, false, false, false, false] (by kernel_rfl) rfl rfl ⟨(kC BK414.out 0).trans rfl, (kC BK414.out 1).trans rfl, hx423_0, ((HB.out.cell (wL w _ hw424_0)).trans hw424_0), hx425_0, ((HB.out.cell (wL w _ hw426_0)).trans hw426_0)⟩ (fun hHeld => ?_); refine with_tabW spec_l2Names.tab11 spec_l2Names.bits11 (fun HT_ HW_ => ?_)
              generalize wr.drew = w29 at HO_5 HO_7 BK414 HB hx423_0 hx424_0 hx425_0 hx426_0 hHeld ⊢
              refine zP 0 (some 35) #[true,false,false,false,false,false,false,false,false,false,false,false,false,false,false,false,false,false] ?_
              refine zP 2 (some 37) #[true,false,true,false,false,false,false,false,false,false,false,false,false,false,false,false,false,false] ?_
              refine zP 3 (some 38) #[true,false,true,true,false,false,false,false,false,false,false,false,false,false,false,false,false,false] ?_
              refine zP 4 (some 39) #[true,false,true,true,true,false,false,false,false,false,false,false,false,false,false,false,false,false] ?_
              refine zP 8 (some 43) #[true,false,true,true,true,false,false,false,true,false,false,false,false,false,false,false,false,false] ?_
              refine zP 10 (some 45) #[true,false,true,true,true,false,false,false,true,false,true,false,false,false,false,false,false,false] ?_
              refine zP 11 (some 46) #[true,false,true,true,true,false,false,false,true,false,true,true,false,false,false,false,false,false] ?_
              refine zP 12 (some 47) #[true,false,true,true,true,false,false,false,true,false,true,true,true,false,false,false,false,false] ?_
              refine take_ (i := 1) (N := some 36) (v := ?_) (a' := ?_) #[true, true, true, true, true, false, false, false, true, false, true, true, true, false, false, false, false, false] rfl rfl (take_ofW HT_.out HW_.out (by kernel_rfl)) (fun _ _ _ h => h) (Or.inl ⟨by rfl, ?_⟩) hHeld ?_ ?_
              rotate_left
              ·rintro w' ⟨s0, s1, s2, s3, s4, s5⟩
               go_simp
               with_reducible rfl
              rotate_left
              ·simp only [Act.put, List.setIfInBounds_toArray, List.set_cons_zero, List.set_cons_succ, i64_w, i32_w]
               rfl
              refine take_ (i := 5) (N := some 40) (v := ?_) (a' := ?_) #[true, true, true, true, true, true, false, false, true, false, true, true, true, false, false, false, false, false] rfl rfl (take_ofW HT_.out HW_.out (by kernel_rfl)) (fun _ _ _ h => h) (Or.inl ⟨by rfl, ?_⟩) hHeld ?_ ?_
              rotate_left
              ·rintro w' ⟨s0, s1, s2, s3, s4, s5⟩
               go_simp
               with_reducible rfl
              rotate_left
              ·simp only [Act.put, List.setIfInBounds_toArray, List.set_cons_zero, List.set_cons_succ, i64_w, i32_w]
               rfl
              refine zP 6 (some 41) #[true,true,true,true,true,true,true,false,true,false,true,true,true,false,false,false,false,false] ?_
              refine take_ (i := 7) (N := some 42) (v := ?_) (a' := ?_) #[true, true, true, true, true, true, true, true, true, false, true, true, true, false, false, false, false, false] rfl rfl (take_ofW HT_.out HW_.out (by kernel_rfl)) (fun _ _ _ h => h) (Or.inl ⟨by rfl, ?_⟩) hHeld ?_ ?_
              rotate_left
              ·rintro w' ⟨s0, s1, s2, s3, s4, s5⟩
               go_simp
               with_reducible rfl
              rotate_left
              ·simp only [Act.put, List.setIfInBounds_toArray, List.set_cons_zero, List.set_cons_succ, i64_w, i32_w]
               rfl
              refine take_ (i := 9) (N := some 44) (v := ?_) (a' := ?_) #[true, true, true, true, true, true, true, true, true, true, true, true, true, false, false, false, false, false] rfl rfl (take_ofW HT_.out HW_.out (by kernel_rfl)) (fun _ _ _ h => h) (Or.inl ⟨by rfl, ?_⟩) hHeld ?_ ?_
              rotate_left
              ·rintro w' ⟨s0, s1, s2, s3, s4, s5⟩
               go_simp
               with_reducible rfl
              rotate_left
              ·simp only [Act.put, List.setIfInBounds_toArray, List.set_cons_zero, List.set_cons_succ, i64_w, i32_w]
               rfl
              refine take_ (i := 13) (N := some 48) (v := ?_) (a' := ?_) #[true, true, true, true, true, true, true, true, true, true, true, true, true, true, false, false, false, false] rfl rfl (take_ofW HT_.out HW_.out (by kernel_rfl)) (fun _ _ _ h => h) (Or.inl ⟨by rfl, ?_⟩) hHeld ?_ ?_
              rotate_left
              ·rintro w' ⟨s0, s1, s2, s3, s4, s5⟩
               go_simp
               with_reducible rfl
              rotate_left
              ·simp only [Act.put, List.setIfInBounds_toArray, List.set_cons_zero, List.set_cons_succ, i64_w, i32_w]
               rfl
              refine zP 14 (some 49) #[true,true,true,true,true,true,true,true,true,true,true,true,true,true,true,false,false,false] ?_
              refine take_ (i := 15) (N := some 50) (v := ?_) (a' := ?_) #[true, true, true, true, true, true, true, true, true, true, true, true, true, true, true, true, false, false] rfl rfl (take_ofW HT_.out HW_.out (by kernel_rfl)) (fun _ _ _ h => h) (Or.inl ⟨by rfl, ?_⟩) hHeld ?_ ?_
              rotate_left
              ·rintro w' ⟨s0, s1, s2, s3, s4, s5⟩
               go_simp
               with_reducible rfl
              rotate_left
              ·simp only [Act.put, List.setIfInBounds_toArray, List.set_cons_zero, List.set_cons_succ, i64_w, i32_w]
               rfl
              refine one_ (i := 16) (N := some 51) #[true, true, true, true, true, true, true, true, true, true, true, true, true, true, true, true, true, false] rfl rfl (one_of HT_.out (by kernel_rfl)) (by decide) (fun K hK => ?_)
              refine Kd.R_lit_step (Kd.int .i64) _ 3 ?hg (N := 51) ?hd (xs := ([rd l0_0 (rd x7_2 x8_2), rd l0_1 (rd x7_2 x8_2)] : List Int)) (inner := [.int .i64 (rd l0_0 (rd x7_2 x8_2)), .int .i64 (rd l0_1 (rd x7_2 x8_2))]) (ok := fun _ => True) (okp := fun _ => True) ?hr ?hp (fun _ hk => hk) trivial (Below.refl _ _) (Nat.le_refl _) (by simp) ?_; (case hd => rfl); (case hg => rfl); (case hr => first | (go_simp; done) | (go_simp; rfl)); (case hp => exact (Reps.one (show Kd.M (Kd.int .i64) _ _ _ (rd l0_0 (rd x7_2 x8_2)) [.int .i64 (rd l0_0 (rd x7_2 x8_2))] from rfl) (Reps.one (show Kd.M (Kd.int .i64) _ _ _ (rd l0_1 (rd x7_2 x8_2)) [.int .i64 (rd l0_1 (rd x7_2 x8_2))] from rfl) (Reps.none _ _))))
              intro v428 w30 ho31 hb hg_ hnew_
              have HS2_ := (hb.cell (wL _ _ (hHeld.2.2.1))).trans (hHeld.2.2.1)
              have HS4_ := (hb.cell (wL _ _ (hHeld.2.2.2.2.1))).trans (hHeld.2.2.2.2.1)
              clear hg_ hnew_
              (first | rw [← Ny427.out] at ho31 | (simp only [Int.reduceToNat] at ho31; rw [← Ny427.out] at ho31))
              have HO429 := A0_ (rL (Kd.R_new' (Kd.R_new' ho31 (rX (zR_ HO_5))) (rX (zR_ HO_7))) (bZ (zB_ HB)))
              replace HO_5 := A0_ (Kd.R_elder' (zR_ HO_5) (Kd.R_base ho31) hb)
              replace HO_7 := A0_ (Kd.R_elder' (zR_ HO_7) (Kd.R_base ho31) hb)
              replace BK414 := zK BK414 hb; replace HB := zB HB hb; clear hb ho31
              refine hK.out _ _ ⟨(kC BK414.out 0).trans rfl, (kC BK414.out 1).trans rfl, HS2_, ((HB.out.cell (wL w _ hw424_0)).trans hw424_0), HS4_, ((HB.out.cell (wL w _ hw426_0)).trans hw426_0)⟩ (fun hHeld => ?_)
              clear hK K
              refine norm_ (a' := ?_) ?_ ?_
              rotate_left
              ·show Act.put _ (some 51) _ = _
               simp only [Act.put, List.setIfInBounds_toArray, List.set_cons_zero, List.set_cons_succ, i64_w, i32_w]
               rfl
              refine zP 17 (some 9) #[true,true,true,true,true,true,true,true,true,true,true,true,true,true,true,true,true,true] ?_
              refine done_ (done_of HT_.out (by kernel_rfl)) ?_
              try go_wp2
              (try generalize Value.pointer (some (ad423.add (x8_2 : Int).toNat)) = pz_)
              (try generalize Value.pointer (some (ad425.add (x8_2 : Int).toNat)) = pz_)
              go_loopg [7, 10] k2 (fun kq v7 v10 w' => ∃ (x5_3 : List Int) (x7_3 : List Int) (x10_3 : Int), v10 = .int .i64 x10_3 ∧ Aside0 (spec_l2Names.l2 kq x5_3 x7_3 x8_2 y427 x10_3 l0_0 l0_1 = some r) ∧ Aside0 (kq ≤ k2) ∧ Aside0 (Kd.R (Kd.int .i64) 3 w' w.heap.size (fun k_ => some k_ ≠ (v7 : Value).ownBlock ∧ some k_ ≠ (v428 : Value).ownBlock) (.slice (some ⟨go17, 0, none⟩) x5_2.length co18) x5_3) ∧ Aside0 (Kd.R (Kd.int .i64) 3 w' w.heap.size (fun k_ => some k_ ≠ ((.slice (some ⟨go17, 0, none⟩) x5_2.length co18) : Value).ownBlock ∧ some k_ ≠ (v428 : Value).ownBlock) v7 x7_3) ∧ Aside0 (Kd.R (Kd.int .i64) 3 w' w.heap.size (fun k_ => some k_ ≠ ((.slice (some ⟨go17, 0, none⟩) x5_2.length co18) : Value).ownBlock ∧ some k_ ≠ (v7 : Value).ownBlock) v428 y427) ∧ Aside0 (w'.heap[gb414]? = some (.cells #[(.slice (some ad424) l0_0.length c0_0), (.slice (some ad426) l0_1.length c0_1)] 25 (0, 0))) ∧ Aside0 (Below w.heap.size w w'))
              case atStart => exact ⟨(x5_2), (x7_2), (0), zt, H', ⟨Nat.le_refl _⟩, ⟨by (try simp only [hl5_2]); (with_reducible repeat (first | apply rA | apply rN | apply rD)); exact HO_5.out⟩, ⟨by (try simp only [hl5_2]); (with_reducible repeat (first | apply rA | apply rN | apply rD)); exact HO_7.out⟩, ⟨by (try simp only [hl5_2]); (with_reducible repeat (first | apply rA | apply rN | apply rD)); exact rM HO429.out (fun _ hk => ⟨hk.1.2, hk.2⟩)⟩, ⟨by (try simp only [hl5_2]); (with_reducible repeat (first | refine kN ?_ _ | refine kD ?_ | refine kA ?_ _)); exact BK414.out⟩, ⟨zB_ HB⟩⟩
              case round =>
               clear H'; (try clear c1); (try clear p1); (try clear q1); (try clear hx1); (try clear c2); (try clear p2); (try clear c3); (try clear c3b0); (try clear c3b1); (try clear c4); (try clear c4b0); (try clear c4b1); (try clear p4); (try clear q4); (try clear hx4); (try clear p6); (try clear c9); (try clear c9b0); (try clear c10); (try clear c10b0); (try clear p11); (try clear q11); (try clear hx11); (try clear hf11); (try clear c15); (try clear c15b0); (try clear c16); (try clear c16b0); (try clear p17); (try clear q17); (try clear hx17); (try clear hf17); (try clear c23); (try clear c23b0); (try clear c24); (try clear c24b0); (try clear c25); (try clear c25b0); (try clear c26); (try clear c26b0); (try clear c27); (try clear c27b0); (try clear hcz6_0); (try clear hcz6_1); (try clear hfz6_0); (try clear hfz6_1); (try clear hx11_0); (try clear hx17_0); (try clear hx423_0); (try clear hx424_0); (try clear hx425_0); (try clear hx426_0); (try clear p1); (try clear p11); (try clear p17); (try clear p2); (try clear p423); (try clear p424); (try clear p425); (try clear p426); (try clear p6); (try clear q1); (try clear q11); (try clear q17); (try clear q423); (try clear q424); (try clear q425); (try clear q426); obtain ⟨x5_3, x7_3, x10_3, rfl, HA, HK3, HO_5, HO_7, HO_9, BK414, HB⟩ := hrel; have hl5_3 := (rR HO_5.out).1; rw [hl5_3] at HO_5; (try simp only [hl5_3]); (try simp only [hl5_3] at BK414); (try simp only [hl5_3] at HO_7); (try simp only [hl5_3] at HO_9)
               cases gk with
               | zero => exact absurd HA.out (by simp [spec_l2Names.l2])
               | succ k3 =>
                have H := HA.out; clear HA; simp only [spec_l2Names.l2] at H
                by_cases c32 : x10_3 < 2
                ·rw [if_pos c32] at H
                 have c32b0 := dT c32; clear c32
                 by_cases c33 : 0 ≤ x10_3
                 ·rw [if_pos c33] at H
                  have c33b0 := dT c33; clear c33
                  by_cases c34 : x10_3 < (y427.length : Int)
                  ·rw [if_pos c34] at H
                   have c34b0 := dT c34; (try simp only [hl5_2] at c34b0); (try simp only [hl5_3] at c34b0); clear c34
                   by_cases c35 : 0 ≤ (rd y427 x10_3)
                   ·rw [if_pos c35] at H
                    have c35b0 := dT c35; clear c35
                    by_cases c36 : (rd y427 x10_3) < (x5_3.length : Int)
                    ·rw [if_pos c36] at H
                     have c36b0 := dT c36; (try simp only [hl5_2] at c36b0); (try simp only [hl5_3] at c36b0); clear c36
                     by_cases c37 : (rd x5_3 (rd y427 x10_3)) < 0
                     ·rw [if_pos c37] at H
                      have c37b0 := dT c37; clear c37
                      obtain ⟨y433, hy433⟩ : ∃ y_ : List Int, y_ = (x5_3.set ((rd y427 x10_3) : Int).toNat (x7_3.length : Int)) := ⟨_, rfl⟩
                      replace H : (if x7_3.length < 17592186044416 then (spec_l2Names.l2 k3 y433 (x7_3 ++ [rd y427 x10_3]) x8_2 y427 (wrap64 (x10_3 + 1)) l0_0 l0_1) else (none)) = some r := zH hy433 H
                      have Ny433 := A0_ hy433; clear hy433
                      by_cases c39 : x7_3.length < 17592186044416
                      ·rw [if_pos c39] at H
                       have LMc39 := A0_ c39; clear c39
                       obtain ⟨y435, hy435⟩ : ∃ y_ : List Int, y_ = (x7_3 ++ [rd y427 x10_3]) := ⟨_, rfl⟩
                       replace H : (spec_l2Names.l2 k3 y433 y435 x8_2 y427 (wrap64 (x10_3 + 1)) l0_0 l0_1) = some r := zH hy435 H
                       have Ny435 := A0_ hy435; clear hy435; have H' := A0_ H; clear H; obtain ⟨Ao40, co40, eo40⟩ := rS HO_9.out; subst eo40
                       have p430 : 0 ≤ (x10_3 : Int) := zd
                       have q430 : x10_3 < (y427.length : Int) := zd
                       obtain ⟨ad430, e430, hx430_0⟩ := tI (rR HO_9.out).2.2 x10_3 p430 q430
                       cases e430
                       replace p430 := eq_true p430; replace q430 := eq_true q430
                       have p431 : 0 ≤ ((rd y427 x10_3) : Int) := zd
                       have q431 : (rd y427 x10_3) < (x5_3.length : Int) := zd
                       obtain ⟨ad431, e431, hx431_0⟩ := tI (rR HO_5.out).2.2 (rd y427 x10_3) p431 q431
                       obtain rfl : (⟨go17, 0, none⟩ : Addr) = ad431 := (by injection e431)
                       (first | simp only [add_plain] at hx431_0 | simp only [add_at] at hx431_0 | simp only [Addr.add, Nat.zero_add] at hx431_0 | skip)
                       replace p431 := eq_true p431; replace q431 := eq_true q431
                       have p432 : 0 ≤ (x10_3 : Int) := zd
                       have q432 : x10_3 < (y427.length : Int) := zd
                       obtain ⟨ad432, e432, hx432_0⟩ := tI (rR HO_9.out).2.2 x10_3 p432 q432
                       obtain rfl : ad430 = ad432 := (by injection e432)
                       replace p432 := eq_true p432; replace q432 := eq_true q432; obtain ⟨Ao41, co41, eo41⟩ := rS HO_7.out; subst eo41
                       have p38 : 0 ≤ ((rd y427 x10_3) : Int) := zd
                       have q38 : ((rd y427 x10_3) : Int) < ((x5_3.length : Int) : Int) := zd
                       obtain ⟨hx38_0, hf38_0⟩ := Kd.R_celln 0 HO_5.out ((rd y427 x10_3) : Int) p38 q38
                       replace p38 := eq_true p38; replace q38 := eq_true q38
                       have HP42 := Kd.R_putg HO_5.out ((rd y427 x10_3) : Int) (x7_3.length : Int)
                       go_wp2_with (first | ((with_reducible refine gS (t := 3) (p := 71) rfl ?_); refine store_event (t := 3) (p := 71) (v := ?vo_w43) (w1 := (wr.setCell ⟨go17, ((rd y427 x10_3) : Int).toNat, none⟩ (.int .i64 (x7_3.length : Int)))) ?hg ?ho ?hn ?hr ?_; (case ho => rfl); (case hg => rfl); (case hn => rfl); (case hr => first | (go_simp; done) | (go_simp; rfl)); intro w43 hw; have hg : wr.grownBy w43 (some go17) := (by rw [hw]; exact HP42.2); have hp_ : Kd.R (Kd.int .i64) 3 w43 w.heap.size (fun k_ => some k_ ≠ (.slice Ao41 x7_3.length co41 : Value).ownBlock ∧ some k_ ≠ (.slice (some ad430) y427.length co40 : Value).ownBlock) (.slice (some ⟨go17, 0, none⟩) x5_3.length co18) y433 := (by rw [hw, Ny433.out]; exact HP42.1); clear HP42; replace HO_7 := A0_ (Kd.R_after (v := (.slice (some ⟨go17, 0, none⟩) x5_3.length co18)) (v1 := (.slice (some ⟨go17, 0, none⟩) x5_3.length co18)) (ok := (fun k_ => some k_ ≠ (.slice (some ad430) y427.length co40 : Value).ownBlock)) (zmR HO_7 (fun _ hk => ⟨hk.2, hk.1⟩)) hg (.inl rfl)); replace HO_9 := A0_ (Kd.R_after (v := (.slice (some ⟨go17, 0, none⟩) x5_3.length co18)) (v1 := (.slice (some ⟨go17, 0, none⟩) x5_3.length co18)) (ok := (fun k_ => some k_ ≠ (.slice Ao41 x7_3.length co41 : Value).ownBlock)) (zmR HO_9 (fun _ hk => ⟨hk.2, hk.1⟩)) hg (.inl rfl)); replace BK414 := A0_ (blk_grown (g := gb414) (o := .cells #[.slice (some ad424) l0_0.length c0_0, .slice (some ad426) l0_1.length c0_1] 25 (0, 0)) (zK_ BK414) hg (Kd.R_ne HO_5.out BK414.out (by decide))); replace HO_5 := A0_ (hp_); replace HB := A0_ ((by rw [hw]; exact bS (HB.out) GB17.out : Below w.heap.size w w43)); clear hg hw hp_; have p434 : 0 ≤ (x10_3 : Int) := zd; have q434 : x10_3 < (y427.length : Int) := zd; obtain ⟨ad434, e434, hx434_0⟩ := tI (rR HO_9.out).2.2 x10_3 p434 q434; obtain rfl : ad430 = ad434 := (by injection e434); replace p434 := eq_true p434; replace q434 := eq_true q434) | ((with_reducible refine gB (b := .append) (xs := #[.tmp 72, .tmp 77]) rfl ?_); at_builtin; refine Kd.R_append (Kd.int .i64) (w0 := w) w.heap.size rfl (.tmp 72) (.tmp 77) 23 3 (.int .i64 0) 8 rfl Tryz.underlying23 info3 rfl (by decide) (by omega) (.slice Ao41 x7_3.length co41) x7_3 (rd y427 x10_3) [.int .i64 (rd y427 x10_3)] (fun k_ => some k_ ≠ (.slice (some ⟨go17, 0, none⟩) x5_3.length co18 : Value).ownBlock ∧ some k_ ≠ (.slice (some ad430) y427.length co40 : Value).ownBlock) (fun _ => False) rfl rfl ?aP (fun _ hk => hk.elim) ?aF ?aO ?aB ?aS ?aL ?_; (case aP => exact rfl); (case aB => exact (zB_ HB)); (case aF => exact (fun k_ hk => ⟨Kd.fresh' (rX (zR_ HO_5)) k_ hk, Kd.fresh' (rX (zR_ HO_9)) k_ hk⟩)); (case aO => exact (zmR HO_7 (fun _ hk => ⟨hk.2, hk.1⟩))); (case aS => exact (bZ (zB_ HB))); (case aL => have := LMc39.out; omega); intro v436 w44 ho hb hg hat; rw [← Ny435.out] at ho; replace HO_5 := A0_ (Kd.R_after (ok := (fun k_ => some k_ ≠ (.slice (some ad430) y427.length co40 : Value).ownBlock)) (zmR HO_5 (fun _ hk => ⟨hk.2, hk.1⟩)) hg hat); replace HO_9 := A0_ (Kd.R_after (ok := (fun k_ => some k_ ≠ (.slice (some ⟨go17, 0, none⟩) x5_3.length co18 : Value).ownBlock)) (zmR HO_9 (fun _ hk => ⟨hk.2, hk.1⟩)) hg hat); replace BK414 := A0_ (blk_grown (g := gb414) (o := .cells #[.slice (some ad424) l0_0.length c0_0, .slice (some ad426) l0_1.length c0_1] 25 (0, 0)) (zK_ BK414) hg (Kd.R_ne HO_7.out BK414.out (by decide))); replace HB := A0_ (hb); have HO437 := A0_ (ho); clear HO_7 ho hb hg hat))
                       (try simp only [← hl5_3])
                       go_roundg k3
                       case measure => have := HK1.out; have := HK2.out; have := HK3.out; omega
                       case rel => exact ⟨(y433), (y435), (wrap64 (x10_3 + 1)), zt, H', ⟨by have := HK1.out; have := HK2.out; have := HK3.out; omega⟩, ⟨by (try simp only [hl5_2]); (try simp only [hl5_3]); (with_reducible repeat (first | apply rA | apply rN | apply rD)); exact rM HO_5.out (fun _ hk => ⟨hk.2, hk.1⟩)⟩, ⟨by (try simp only [hl5_2]); (try simp only [hl5_3]); (with_reducible repeat (first | apply rA | apply rN | apply rD)); exact HO437.out⟩, ⟨by (try simp only [hl5_2]); (try simp only [hl5_3]); (with_reducible repeat (first | apply rA | apply rN | apply rD)); exact HO_9.out⟩, ⟨by (try simp only [hl5_2]); (try simp only [hl5_3]); (with_reducible repeat (first | refine kN ?_ _ | refine kD ?_ | refine kA ?_ _)); exact BK414.out⟩, ⟨zB_ HB⟩⟩
                      rw [if_neg c39] at H
                      exact absurd H (by simp)
                     rw [if_neg c37] at H; have c37b0 := dF c37; clear c37; have H' := A0_ H; clear H; obtain ⟨Ao45, co45, eo45⟩ := rS HO_9.out; subst eo45
                     have p430 : 0 ≤ (x10_3 : Int) := zd
                     have q430 : x10_3 < (y427.length : Int) := zd
                     obtain ⟨ad430, e430, hx430_0⟩ := tI (rR HO_9.out).2.2 x10_3 p430 q430
                     cases e430
                     replace p430 := eq_true p430; replace q430 := eq_true q430
                     have p431 : 0 ≤ ((rd y427 x10_3) : Int) := zd
                     have q431 : (rd y427 x10_3) < (x5_3.length : Int) := zd
                     obtain ⟨ad431, e431, hx431_0⟩ := tI (rR HO_5.out).2.2 (rd y427 x10_3) p431 q431
                     obtain rfl : (⟨go17, 0, none⟩ : Addr) = ad431 := (by injection e431)
                     (first | simp only [add_plain] at hx431_0 | simp only [add_at] at hx431_0 | simp only [Addr.add, Nat.zero_add] at hx431_0 | skip)
                     replace p431 := eq_true p431; replace q431 := eq_true q431
                     go_wp2
                     (try simp only [← hl5_3])
                     go_roundg k3
                     case measure => have := HK1.out; have := HK2.out; have := HK3.out; omega
                     case rel => exact ⟨(x5_3), (x7_3), (wrap64 (x10_3 + 1)), zt, H', ⟨by have := HK1.out; have := HK2.out; have := HK3.out; omega⟩, ⟨by (try simp only [hl5_2]); (try simp only [hl5_3]); (with_reducible repeat (first | apply rA | apply rN | apply rD)); exact HO_5.out⟩, ⟨by (try simp only [hl5_2]); (try simp only [hl5_3]); (with_reducible repeat (first | apply rA | apply rN | apply rD)); exact HO_7.out⟩, ⟨by (try simp only [hl5_2]); (try simp only [hl5_3]); (with_reducible repeat (first | apply rA | apply rN | apply rD)); exact HO_9.out⟩, ⟨by (try simp only [hl5_2]); (try simp only [hl5_3]); (with_reducible repeat (first | refine kN ?_ _ | refine kD ?_ | refine kA ?_ _)); exact BK414.out⟩, ⟨zB_ HB⟩⟩
                    rw [if_neg c36] at H
                    exact absurd H (by simp)
                   rw [if_neg c35] at H
                   exact absurd H (by simp)
                  rw [if_neg c34] at H
                  exact absurd H (by simp)
                 rw [if_neg c33] at H
                 exact absurd H (by simp)
                rw [if_neg c32] at H; have c32b0 := dF c32; clear c32; have H' := A0_ H; clear H
                go_wp2
                (try simp only [← hl5_2, ← hl5_3])
                go_roundg k3
                case measure => have := HK1.out; have := HK2.out; have := HK3.out; omega
                case rel => exact ⟨(x5_3), (x7_3), (wrap64 (x8_2 + 1)), zt, H', ⟨by have := HK1.out; have := HK2.out; have := HK3.out; omega⟩, ⟨by (try simp only [hl5_2]); (try simp only [hl5_3]); (with_reducible repeat (first | apply rA | apply rN | apply rD)); exact rM HO_5.out (fun _ hk => hk.1)⟩, ⟨by (try simp only [hl5_2]); (try simp only [hl5_3]); (with_reducible repeat (first | apply rA | apply rN | apply rD)); exact rM HO_7.out (fun _ hk => hk.1)⟩, ⟨by (try simp only [hl5_2]); (try simp only [hl5_3]); (with_reducible repeat (first | refine kN ?_ _ | refine kD ?_ | refine kA ?_ _)); exact BK414.out⟩, ⟨zB_ HB⟩⟩
             rw [if_neg c27] at H
             exact absurd H (by simp)
            rw [if_neg c26] at H
            exact absurd H (by simp)
           rw [if_neg c25] at H
           exact absurd H (by simp)
          rw [if_neg c24] at H
          exact absurd H (by simp)
         rw [if_neg c23] at H; have c23b0 := dF c23; (try simp only [hl5_2] at c23b0); clear c23; obtain rfl := sI H; obtain ⟨Ao46, co46, eo46⟩ := rS HO_7.out; subst eo46
         go_wp2
         go_ret
         exact ⟨_, by first | rfl | (simp [*] <;> rfl), zmR HO_5 (fun _ hk => trivial), zB_ HB⟩
      rw [if_neg c16] at H
      exact absurd H (by simp)
     rw [if_neg c15] at H
     exact absurd H (by simp)
  rw [if_neg c4] at H
  exact absurd H (by simp)
 rw [if_neg c3] at H
 exact absurd H (by simp)

/-! ### spec_l2Form: function 56 -/
def spec_l2Form.f (k : Nat) (l0_0 : List Int) (l0_1 : List Int) (a1 : Int) : Option (List Int × List Int) := (spec_l2Names.f k l0_0 l0_1 a1).bind fun t440 => ((spec_l2Rename.f k l0_0 l0_1 t440).bind fun bt443 => (some (bt443.1, bt443.2)))
set_option maxHeartbeats 8000000 in
set_option maxRecDepth 100000 in
theorem spec_l2Form.calls (k : Nat) (A0_0 : Option Addr) (c0_0 : Nat) (l0_0 : List Int) (A0_1 : Option Addr) (c0_1 : Nat) (l0_1 : List Int) (a1 : Int) (r1 : List Int) (r2 : List Int) (w : World) (hr0_0 : Kd.C (Kd.int .i64) w A0_0 l0_0.length l0_0) (hc0_0 : l0_0.length ≤ c0_0) (hr0_1 : Kd.C (Kd.int .i64) w A0_1 l0_1.length l0_1) (hc0_1 : l0_1.length ≤ c0_1) (h : spec_l2Form.f k l0_0 l0_1 a1 = some (r1, r2)) :
    Calls Tryz.prog 56 #[.agg #[.slice A0_0 l0_0.length c0_0, .slice A0_1 l0_1.length c0_1], .int .i64 a1] w fun e w' => ∃ v0_ v1_ : Value, e = .returned (.agg #[v0_, v1_]) ∧ Kd.R (Kd.int .i64) 3 w' w.heap.size (fun k_ => some k_ ≠ (v1_ : Value).ownBlock) v0_ r1 ∧ Kd.R (Kd.int .i64) 3 w' w.heap.size (fun k_ => some k_ ≠ (v0_ : Value).ownBlock) v1_ r2 ∧ Below w.heap.size w w' := by
 have hu25 := Tryz.underlying25; have HR0_0 := A0_ hr0_0; have HC0_0 := A0_ hc0_0; clear hr0_0 hc0_0; have HR0_1 := A0_ hr0_1; have HC0_1 := A0_ hc0_1; clear hr0_1 hc0_1
 have HB := A0_ (Below.refl w.heap.size w)
 have H : ((spec_l2Names.f k l0_0 l0_1 a1).bind fun t440 => ((spec_l2Rename.f k l0_0 l0_1 t440).bind fun bt443 => (some (bt443.1, bt443.2)))) = some (r1, r2) := h
 clear h; obtain ⟨t440, A3, H⟩ := zbind H; obtain ⟨⟨t443, t446⟩, A4, H⟩ := zbind H
 replace H : (some (t443, t446)) = some (r1, r2) := H
 simp only [Option.some.injEq, Prod.mk.injEq] at H; obtain ⟨rfl, rfl⟩ := H
 go_enter Tryz.func56, Tryz.ntmps56
 try go_wp2_with (first | ((with_reducible refine gD (N := 2) rfl ?_); refine zX (N := 2) (cs := #[.slice A0_0 l0_0.length c0_0, .slice A0_1 l0_1.length c0_1]) (t := 25) ?_; intro gb438 hg w5 hbox hb; have BK438 := A0_ (hbox); have GW438 := zG hg HB; have GE438 := zG hg HB; replace HB := zB HB hb; clear hb hbox hg) | ((with_reducible refine gD (N := 4) rfl ?_); refine zX (N := 4) (cs := #[.slice none 0 0, .slice none 0 0]) (t := 25) ?_; intro gb439 hg w6 hbox hb; have BK439 := A0_ (hbox); have GW439 := zG hg HB; have GE439 := zG hg HB; replace HB := zB HB hb; have NB438_439 := zL hg BK438; have NB439_438 := zM hg BK438; replace BK438 := zK BK438 hb; clear hb hbox hg))
 replace BK438 := A0_ (kD BK438.out)
 replace BK439 := A0_ (kD BK439.out)
 replace HB := A0_ (bD HB.out)
 refine start_ (n := 6) (S := fun w' => w'.cell? ⟨gb438, 0, none⟩ = some (.slice A0_0 l0_0.length c0_0) ∧ w'.cell? ⟨gb438, 1, none⟩ = some (.slice A0_1 l0_1.length c0_1)) (ds := []) #[false, false, false, false, false, false] (by kernel_rfl) rfl rfl ⟨(kC BK438.out 0).trans rfl, (kC BK438.out 1).trans rfl⟩ (fun hHeld => ?_)
 generalize w6.drew = w7 at BK438 BK439 HB hHeld ⊢
 refine pure_ (i := 2) (N := some 7) (v := ?_) (a' := ?_) #[false, false, true, false, false, false] rfl rfl (by kernel_rfl) (fun _ _ _ h => h) (Or.inl ⟨by rfl, ?_⟩) ?_ ?_
 rotate_left
 ·intro w'
  go_simp
  with_reducible rfl
 rotate_left
 ·simp only [Act.put, List.setIfInBounds_toArray, List.set_cons_zero, List.set_cons_succ, i64_w, i32_w]
  rfl
 refine take_ (i := 0) (N := some 5) (v := ?_) (a' := ?_) #[true, false, true, false, false, false] rfl rfl (by kernel_rfl) (fun _ _ _ h => h) (Or.inl ⟨by rfl, ?_⟩) hHeld ?_ ?_
 rotate_left
 ·rintro w' ⟨s0, s1⟩
  go_simp
  with_reducible rfl
 rotate_left
 ·simp only [Act.put, List.setIfInBounds_toArray, List.set_cons_zero, List.set_cons_succ, i64_w, i32_w]
  rfl
 refine take_ (i := 1) (N := some 6) (v := ?_) (a' := ?_) #[true, true, true, false, false, false] rfl rfl (by kernel_rfl) (fun _ _ _ h => h) (Or.inl ⟨by rfl, ?_⟩) hHeld ?_ ?_
 rotate_left
 ·rintro w' ⟨s0, s1⟩
  go_simp
  with_reducible rfl
 rotate_left
 ·simp only [Act.put, List.setIfInBounds_toArray, List.set_cons_zero, List.set_cons_succ, i64_w, i32_w]
  rfl
 refine one_ (i := 3) (N := some 8) #[true, true, true, true, false, false] rfl rfl (by kernel_rfl) (by decide) (fun K hK => ?_)
 refine goes_ Tryz.func96 (by kernel_rfl) rfl #[.agg #[.slice A0_0 l0_0.length c0_0, .slice A0_1 l0_1.length c0_1], .int .i64 a1] (by rfl) rfl rfl (by (try simp only [List.map_toArray, List.map_cons, List.map_nil]); first | done | rfl | (simp only [List.length_drop, List.length_take]; rfl)) ?_
 with_reducible refine (spec_l2Names.calls k _ _ l0_0 _ _ l0_1 a1 t440 _ ?side1 ?side2 ?side3 ?side4 A3.out).mono ?_
 (case side1 => exact zC HR0_0 HB)
 (case side2 => exact HC0_0.out)
 (case side3 => exact zC HR0_1 HB)
 (case side4 => exact HC0_1.out)
 rintro e w8 ⟨v441, rfl, ho0, hb⟩
 refine ⟨_, rfl, ?_⟩
 have HO442 := A0_ (rL ho0 (bZ (zB_ HB)))
 replace BK438 := zK BK438 hb; replace BK439 := zK BK439 hb; replace HB := zB HB hb; (try clear hb); (try clear hb2); (try clear hk); (try clear hi); (try clear ho0); obtain ⟨Ao9, co9, eo9⟩ := rS HO442.out
 (first | subst eo9 | (injection eo9 with f1_ f2_ f3_; have f4_ := f1_.symm; have f5_ := f3_.symm; clear f1_ f2_ f3_; subst f4_; subst f5_))
 refine hK.out _ _ ⟨(kC BK438.out 0).trans rfl, (kC BK438.out 1).trans rfl⟩ (fun hHeld => ?_)
 clear hK K
 refine norm_ (a' := ?_) ?_ ?_
 rotate_left
 ·show Act.put _ (some 8) _ = _
  simp only [Act.put, List.setIfInBounds_toArray, List.set_cons_zero, List.set_cons_succ, i64_w, i32_w]
  rfl
 refine one_ (i := 4) (N := some 9) #[true, true, true, true, true, false] rfl rfl (by kernel_rfl) (by decide) (fun K hK => ?_)
 refine goes_ Tryz.func95 (by kernel_rfl) rfl #[.agg #[.slice A0_0 l0_0.length c0_0, .slice A0_1 l0_1.length c0_1], .slice Ao9 t440.length co9] (by rfl) rfl rfl (by (try simp only [List.map_toArray, List.map_cons, List.map_nil]); first | done | rfl | (simp only [List.length_drop, List.length_take]; rfl)) ?_
 with_reducible refine (spec_l2Rename.calls k _ _ l0_0 _ _ l0_1 _ _ t440 t443 t446 _ ?side1 ?side2 ?side3 ?side4 ?side5 ?side6 A4.out).mono ?_
 (case side1 => exact zC HR0_0 HB)
 (case side2 => exact HC0_0.out)
 (case side3 => exact zC HR0_1 HB)
 (case side4 => exact HC0_1.out)
 (case side5 => exact zD HO442)
 (case side6 => exact (rR HO442.out).2.1)
 rintro e w10 ⟨v444, v447, rfl, ho0, ho1, hb⟩
 refine ⟨_, rfl, ?_⟩
 have HO445 := A0_ (rL (Kd.R_new' ho0 (rX (zR_ HO442))) (bZ (zB_ HB)))
 have HO448 := A0_ (rL (Kd.R_new' ho1 (rX (zR_ HO442))) (bZ (zB_ HB)))
 replace HO442 := A0_ (rM (rT (rT (rO (zR_ HO442) hb) (Kd.R_base ho0)) (Kd.R_base ho1)) (fun _ h_ => h_.1))
 replace BK438 := zK BK438 hb; replace BK439 := zK BK439 hb; replace HB := zB HB hb; (try clear hb); (try clear hb2); (try clear hk); (try clear hi); (try clear ho0); (try clear ho1); obtain ⟨Ao11, co11, eo11⟩ := rS HO445.out
 (first | subst eo11 | (injection eo11 with f1_ f2_ f3_; have f4_ := f1_.symm; have f5_ := f3_.symm; clear f1_ f2_ f3_; subst f4_; subst f5_))
 obtain ⟨Ao13, co13, eo13⟩ := rS HO448.out
 (first | subst eo13 | (injection eo13 with f1_ f2_ f3_; have f4_ := f1_.symm; have f5_ := f3_.symm; clear f1_ f2_ f3_; subst f4_; subst f5_))
 refine hK.out _ _ ⟨(kC BK438.out 0).trans rfl, (kC BK438.out 1).trans rfl⟩ (fun hHeld => ?_)
 clear hK K
 refine norm_ (a' := ?_) ?_ ?_
 rotate_left
 ·show Act.put _ (some 9) _ = _
  simp only [Act.put, List.setIfInBounds_toArray, List.set_cons_zero, List.set_cons_succ, i64_w, i32_w]
  rfl
 refine one_ (i := 5) (N := none) #[true, true, true, true, true, true] rfl rfl (by kernel_rfl) (by decide) (fun K hK => ?_)
 have hs12 : w10.cell? ⟨gb439, 0, none⟩ = some (.slice none 0 0) := (kC BK439.out 0).trans rfl
 have hfs12 := kF BK439.out 0; have hns12_0 := NB438_439.out; have hms12_0 := NB439_438.out
 have hs14 : w10.cell? ⟨gb439, 1, none⟩ = some (.slice none 0 0) := (kC BK439.out 1).trans rfl
 have hfs14 := kF BK439.out 1; have hns14_0 := NB438_439.out; have hms14_0 := NB439_438.out
 refine skip_ (w1 := ?_) (by rfl) rfl ?_ ?_
 rotate_left
 ·go_simp
  rfl
 refine hK.out _ _ ⟨((cell_far (p := ⟨gb439, _, none⟩) NB438_439.out _).trans (((cell_far (p := ⟨gb439, _, none⟩) NB438_439.out _).trans (hHeld.1)))), ((cell_far (p := ⟨gb439, _, none⟩) NB438_439.out _).trans (((cell_far (p := ⟨gb439, _, none⟩) NB438_439.out _).trans (hHeld.2))))⟩ (fun hHeld => ?_)
 clear hK K
 refine done_ (by kernel_rfl) ?_
 try go_wp2
 refine bodyPost_ret (results_cell_row rfl _ _ gb439 25 #[.slice Ao11 t443.length co11, .slice Ao13 t446.length co13] (0, 0) _ rfl (by (with_reducible repeat (first | refine kN ?_ _ | refine kD ?_ | refine kA ?_ _)); refine blk_put (cs := #[.slice Ao11 t443.length co11, .slice none 0 0]) ?_ 1 _ rfl; (with_reducible repeat (first | refine kN ?_ _ | refine kD ?_ | refine kA ?_ _)); refine blk_put (cs := #[.slice none 0 0, .slice none 0 0]) ?_ 0 _ rfl; (with_reducible repeat (first | refine kN ?_ _ | refine kD ?_ | refine kA ?_ _)); exact BK439.out) Tryz.underlying25 rfl (by kernel_rfl)) rfl ?_
 exact ⟨_, _, by first | rfl | (simp [*] <;> rfl), by (with_reducible repeat (first | apply rA | apply rN | apply rD)); exact rM (rF (p := ⟨gb439, 1, none⟩) (rF (p := ⟨gb439, 0, none⟩) (rY HO445.out BK439.out (by decide)) (fun _ hk => hk.2) (.slice Ao11 t443.length co11)) (fun _ hk => hk.2) (.slice Ao13 t446.length co13)) (fun _ hk => hk.1.1), by (with_reducible repeat (first | apply rA | apply rN | apply rD)); exact rM (rF (p := ⟨gb439, 1, none⟩) (rF (p := ⟨gb439, 0, none⟩) (rY HO448.out BK439.out (by decide)) (fun _ hk => hk.2) (.slice Ao11 t443.length co11)) (fun _ hk => hk.2) (.slice Ao13 t446.length co13)) (fun _ hk => hk.1.1), zB_ HB⟩

/-! ### spec_MapForm: function 26 -/
def spec_MapForm.f (k : Nat) (l0_0 : List Int) (l0_1 : List Int) (a1 : Int) : Option (List Int × List Int × Bool) := (spec_l2Dart.f k l0_0 l0_1 a1).bind fun t451 => (if t451 = true then ((spec_l2Form.f k l0_0 l0_1 a1).bind fun bt452 => (some (bt452.1, bt452.2, true))) else (some (([] : List Int), ([] : List Int), false)))
set_option maxHeartbeats 8000000 in
set_option maxRecDepth 100000 in
theorem spec_MapForm.calls (k : Nat) (A0_0 : Option Addr) (c0_0 : Nat) (l0_0 : List Int) (A0_1 : Option Addr) (c0_1 : Nat) (l0_1 : List Int) (a1 : Int) (r1 : List Int) (r2 : List Int) (r3 : Bool) (w : World) (hr0_0 : Kd.C (Kd.int .i64) w A0_0 l0_0.length l0_0) (hc0_0 : l0_0.length ≤ c0_0) (hr0_1 : Kd.C (Kd.int .i64) w A0_1 l0_1.length l0_1) (hc0_1 : l0_1.length ≤ c0_1) (h : spec_MapForm.f k l0_0 l0_1 a1 = some (r1, r2, r3)) :
    Calls Tryz.prog 26 #[.agg #[.slice A0_0 l0_0.length c0_0, .slice A0_1 l0_1.length c0_1], .int .i64 a1] w fun e w' => ∃ v0_ v1_ : Value, e = .returned (.tuple #[.agg #[v0_, v1_], .bool r3]) ∧ Kd.R (Kd.int .i64) 3 w' w.heap.size (fun k_ => some k_ ≠ (v1_ : Value).ownBlock) v0_ r1 ∧ Kd.R (Kd.int .i64) 3 w' w.heap.size (fun k_ => some k_ ≠ (v0_ : Value).ownBlock) v1_ r2 ∧ Below w.heap.size w w' := by
 have hu25 := Tryz.underlying25; have HR0_0 := A0_ hr0_0; have HC0_0 := A0_ hc0_0; clear hr0_0 hc0_0; have HR0_1 := A0_ hr0_1; have HC0_1 := A0_ hc0_1; clear hr0_1 hc0_1
 have HB := A0_ (Below.refl w.heap.size w)
 have H : ((spec_l2Dart.f k l0_0 l0_1 a1).bind fun t451 => (if t451 = true then ((spec_l2Form.f k l0_0 l0_1 a1).bind fun bt452 => (some (bt452.1, bt452.2, true))) else (some (([] : List Int), ([] : List Int), false)))) = some (r1, r2, r3) := h
 clear h; obtain ⟨t451, A3, H⟩ := zbind H
 by_cases c4 : t451 = true
 ·subst c4
  have H1 : ((spec_l2Form.f k l0_0 l0_1 a1).bind fun bt452 => (some (bt452.1, bt452.2, true))) = some (r1, r2, r3) := by rw [if_pos rfl] at H; exact H
  clear H; have H := H1; clear H1; obtain ⟨⟨t452, t455⟩, A5, H⟩ := zbind H; dsimp only at H; simp only [Option.some.injEq, Prod.mk.injEq] at H; obtain ⟨rfl, rfl, rfl⟩ := H
  go_enter Tryz.func26, Tryz.ntmps26
  go_wp2_with (first | ((with_reducible refine gD (N := 2) rfl ?_); refine zX (N := 2) (cs := #[.slice A0_0 l0_0.length c0_0, .slice A0_1 l0_1.length c0_1]) (t := 25) ?_; intro gb449 hg w6 hbox hb; have BK449 := A0_ (hbox); have GW449 := zG hg HB; have GE449 := zG hg HB; replace HB := zB HB hb; clear hb hbox hg) | ((with_reducible refine gD (N := 4) rfl ?_); refine zX (N := 4) (cs := #[.slice none 0 0, .slice none 0 0]) (t := 25) ?_; intro gb450 hg w7 hbox hb; have BK450 := A0_ (hbox); have GW450 := zG hg HB; have GE450 := zG hg HB; replace HB := zB HB hb; have NB449_450 := zL hg BK449; have NB450_449 := zM hg BK449; replace BK449 := zK BK449 hb; clear hb hbox hg; have hnb8 := NB449_450.out; have hnc8 := NB450_449.out; have hcz9_0 := zc0 BK449; have hcz9_1 := zc1 BK449; have hfz9_0 := kF BK449.out 0; have hfz9_1 := kF BK449.out 1) | ((with_reducible refine gC (f := 55) rfl ?_); refine zJ (some 8) Tryz.func55 #[.agg #[.slice A0_0 l0_0.length c0_0, .slice A0_1 l0_1.length c0_1], .int .i64 a1] ?_; (with_reducible refine (spec_l2Dart.calls k _ _ l0_0 _ _ l0_1 a1 true _ ?side1 ?side2 ?side3 ?side4 A3.out).mono ?_); (case side1 => exact zC HR0_0 HB); (case side2 => exact HC0_0.out); (case side3 => exact zC HR0_1 HB); (case side4 => exact HC0_1.out); rintro e w10 ⟨rfl, hb⟩; refine ⟨_, rfl, ?_⟩; replace BK449 := zK BK449 hb; replace BK450 := zK BK450 hb; replace HB := zB HB hb; (try clear hb); have hcz11_0 := zc0 BK449; have hcz11_1 := zc1 BK449; have hfz11_0 := kF BK449.out 0; have hfz11_1 := kF BK449.out 1) | ((with_reducible refine gC (f := 56) rfl ?_); refine zJ (some 13) Tryz.func56 #[.agg #[.slice A0_0 l0_0.length c0_0, .slice A0_1 l0_1.length c0_1], .int .i64 a1] ?_; (with_reducible refine (spec_l2Form.calls k _ _ l0_0 _ _ l0_1 a1 t452 t455 _ ?side1 ?side2 ?side3 ?side4 A5.out).mono ?_); (case side1 => exact zC HR0_0 HB); (case side2 => exact HC0_0.out); (case side3 => exact zC HR0_1 HB); (case side4 => exact HC0_1.out); rintro e w12 ⟨v453, v456, rfl, ho0, ho1, hb⟩; refine ⟨_, rfl, ?_⟩; have HO454 := A0_ (rL ho0 (bZ (zB_ HB))); have HO457 := A0_ (rL ho1 (bZ (zB_ HB))); replace BK449 := zK BK449 hb; replace BK450 := zK BK450 hb; replace HB := zB HB hb; (try clear hb); (try clear ho0); (try clear ho1); obtain ⟨Ao13, co13, eo13⟩ := rS HO454.out; subst eo13; have hcz14_0 := zc0 BK450; have hcz14_1 := zc1 BK450; have hfz14_0 := kF BK450.out 0; have hfz14_1 := kF BK450.out 1; obtain ⟨Ao15, co15, eo15⟩ := rS HO457.out; subst eo15))
  refine bodyPost_ret (results_ct rfl _ _ gb450 25 #[.slice Ao13 t452.length co13, .slice Ao15 t455.length co15] (0, 0) _ rfl (by (with_reducible repeat (first | refine kN ?_ _ | refine kD ?_ | refine kA ?_ _)); refine blk_put (cs := #[.slice Ao13 t452.length co13, .slice none 0 0]) ?_ 1 _ rfl; (with_reducible repeat (first | refine kN ?_ _ | refine kD ?_ | refine kA ?_ _)); refine blk_put (cs := #[.slice none 0 0, .slice none 0 0]) ?_ 0 _ rfl; (with_reducible repeat (first | refine kN ?_ _ | refine kD ?_ | refine kA ?_ _)); exact BK450.out) Tryz.underlying25 rfl (by kernel_rfl)) rfl ?_
  exact ⟨_, _, by first | rfl | (simp [*] <;> rfl), zF HO454 BK450 (.slice Ao13 t452.length co13) (.slice Ao15 t455.length co15) 0 1, zF HO457 BK450 (.slice Ao13 t452.length co13) (.slice Ao15 t455.length co15) 0 1, zB_ HB⟩
 replace c4 := Bool.eq_false_iff.mpr c4; subst c4
 have H1 : (some (([] : List Int), ([] : List Int), false)) = some (r1, r2, r3) := by rw [if_neg (show ¬ (false = true) by decide)] at H; exact H
 clear H; have H := H1; clear H1; simp only [Option.some.injEq, Prod.mk.injEq] at H; obtain ⟨rfl, rfl, rfl⟩ := H
 go_enter Tryz.func26, Tryz.ntmps26
 go_wp2_with (first | ((with_reducible refine gD (N := 2) rfl ?_); refine zX (N := 2) (cs := #[.slice A0_0 l0_0.length c0_0, .slice A0_1 l0_1.length c0_1]) (t := 25) ?_; intro gb449 hg w16 hbox hb; have BK449 := A0_ (hbox); have GW449 := zG hg HB; have GE449 := zG hg HB; replace HB := zB HB hb; clear hb hbox hg) | ((with_reducible refine gD (N := 4) rfl ?_); refine zX (N := 4) (cs := #[.slice none 0 0, .slice none 0 0]) (t := 25) ?_; intro gb450 hg w17 hbox hb; have BK450 := A0_ (hbox); have GW450 := zG hg HB; have GE450 := zG hg HB; replace HB := zB HB hb; have NB449_450 := zL hg BK449; have NB450_449 := zM hg BK449; replace BK449 := zK BK449 hb; clear hb hbox hg; have hnb18 := NB449_450.out; have hnc18 := NB450_449.out; have hcz19_0 := zc0 BK449; have hcz19_1 := zc1 BK449; have hfz19_0 := kF BK449.out 0; have hfz19_1 := kF BK449.out 1) | ((with_reducible refine gC (f := 55) rfl ?_); refine zJ (some 8) Tryz.func55 #[.agg #[.slice A0_0 l0_0.length c0_0, .slice A0_1 l0_1.length c0_1], .int .i64 a1] ?_; (with_reducible refine (spec_l2Dart.calls k _ _ l0_0 _ _ l0_1 a1 false _ ?side1 ?side2 ?side3 ?side4 A3.out).mono ?_); (case side1 => exact zC HR0_0 HB); (case side2 => exact HC0_0.out); (case side3 => exact zC HR0_1 HB); (case side4 => exact HC0_1.out); rintro e w20 ⟨rfl, hb⟩; refine ⟨_, rfl, ?_⟩; replace BK449 := zK BK449 hb; replace BK450 := zK BK450 hb; replace HB := zB HB hb; (try clear hb); have hcz21_0 := zc0 BK450; have hcz21_1 := zc1 BK450; have hfz21_0 := kF BK450.out 0; have hfz21_1 := kF BK450.out 1))
 refine bodyPost_ret (results_ct rfl _ _ gb450 25 #[.slice none 0 0, .slice none 0 0] (0, 0) _ rfl (by (with_reducible repeat (first | refine kN ?_ _ | refine kD ?_ | refine kA ?_ _)); refine blk_put (cs := #[.slice none 0 0, .slice none 0 0]) ?_ 1 _ rfl; (with_reducible repeat (first | refine kN ?_ _ | refine kD ?_ | refine kA ?_ _)); refine blk_put (cs := #[.slice none 0 0, .slice none 0 0]) ?_ 0 _ rfl; (with_reducible repeat (first | refine kN ?_ _ | refine kD ?_ | refine kA ?_ _)); exact BK450.out) Tryz.underlying25 rfl (by kernel_rfl)) rfl ?_
 exact ⟨_, _, by first | rfl | (simp [*] <;> rfl), by first | exact Kd.R_nil _ _ _ _ _ | exact Kd.N_nil _ _ _ _ _ | exact Kd.V_nil _ _ _ _ _ | exact Kd.Q_nil _ _ _ _ _ | exact Kd.S_nil _ _ _ _ _, by first | exact Kd.R_nil _ _ _ _ _ | exact Kd.N_nil _ _ _ _ _ | exact Kd.V_nil _ _ _ _ _ | exact Kd.Q_nil _ _ _ _ _ | exact Kd.S_nil _ _ _ _ _, zB_ HB⟩

end Go.Proofs.YtikkokflcgcnbaaGreatDoor.PFnExecuteForm
