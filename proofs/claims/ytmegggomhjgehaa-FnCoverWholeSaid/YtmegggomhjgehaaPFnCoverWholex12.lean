-- Made by a program of this session (wip/tools) out of the loaded program; not trusted: Lean checks it.
import Derived.Test.YtmegggomhjgehaaPFnCoverWholex0
-- packed
namespace Go.Proofs.Ytmegggomhjgehaa.PFnCoverWhole
open Go.RowKit Go.Proofs.YtmegggomhjgehaaW.PrintWords Go.Proofs.YtmegggomhjgehaaW.PrintLast Go.Proofs.YtmegggomhjgehaaW.PrintMore
attribute [local go_sem] max2_int min2_int max_two min_two max_three min_three max_four min_four   -- for this text's walks alone
set_option linter.unusedVariables false
set_option linter.unusedSimpArgs false

/-! ### impl_namesFrom: function 61 -/
mutual
def impl_namesFrom.l0 : Nat → Int → List Int → Int → Int → List Int → List Int → Option (List Int)
  | 0, _, _, _, _, _, _ => none
  | k + 1, x1, x5, x16, x17, x436000, x436001 => if x17 < x16 then (if 0 ≤ x17 then (if x17 < (x5.length : Int) then (impl_namesFrom.l0 k x1 (x5.set (x17 : Int).toNat (-1)) x16 (wrap64 (x17 + 1)) x436000 x436001) else (none)) else (none)) else (if 0 ≤ x1 then (if x1 < (x5.length : Int) then (impl_namesFrom.l1 k (x5.set (x1 : Int).toNat 0) (([x1] : List Int)) 0 x436000 x436001) else (none)) else (none))
def impl_namesFrom.l1 : Nat → List Int → List Int → Int → List Int → List Int → Option (List Int)
  | 0, _, _, _, _, _ => none
  | k + 1, x5, x7, x8, x436000, x436001 => if x8 < (x7.length : Int) then (if 0 ≤ x8 then (if 0 ≤ (rd x7 x8) then (if (rd x7 x8) < (x436000.length : Int) then (if (rd x7 x8) < (x436001.length : Int) then ((some (([rd x436000 (rd x7 x8), rd x436001 (rd x7 x8)] : List Int) : List Int)).bind fun y448 => (impl_namesFrom.l2 k x5 x7 x8 y448 (y448.length : Int) 0 x436000 x436001)) else (none)) else (none)) else (none)) else (none)) else (some x5)
def impl_namesFrom.l2 : Nat → List Int → List Int → Int → List Int → Int → Int → List Int → List Int → Option (List Int)
  | 0, _, _, _, _, _, _, _, _ => none
  | k + 1, x5, x7, x8, x51, x52, x53, x436000, x436001 => if x53 < x52 then (if 0 ≤ x53 then (if x53 < (x51.length : Int) then (if 0 ≤ (rd x51 x53) then (if (rd x51 x53) < (x5.length : Int) then (if (rd x5 (rd x51 x53)) < 0 then (if x7.length < 17592186044416 then (impl_namesFrom.l2 k (x5.set ((rd x51 x53) : Int).toNat (x7.length : Int)) (x7 ++ [rd x51 x53]) x8 x51 x52 (wrap64 (x53 + 1)) x436000 x436001) else (none)) else (impl_namesFrom.l2 k x5 x7 x8 x51 x52 (wrap64 (x53 + 1)) x436000 x436001)) else (none)) else (none)) else (none)) else (none)) else (impl_namesFrom.l1 k x5 x7 (wrap64 (x8 + 1)) x436000 x436001)
end
def impl_namesFrom.f (k : Nat) (l0_0 : List Int) (l0_1 : List Int) (a1 : Int) : Option (List Int) := if 0 ≤ (l0_0.length : Int) then (if ((l0_0.length : Int) : Int).toNat ≤ 35184372088832 then ((some (List.replicate ((l0_0.length : Int) : Int).toNat 0 : List Int)).bind fun y436 => (impl_namesFrom.l0 k a1 y436 (y436.length : Int) 0 l0_0 l0_1)) else (none)) else (none)
def impl_namesFrom.T12 : Bool × List (List Nat × List Nat) := (true, [([], []), ([0], [0]), ([], []), ([], []), ([2, 3], [2, 3]), ([4], [4]), ([1, 5], [1, 5]), ([6], [6]), ([], []), ([8], [8]), ([], []), ([], []), ([10, 11], [10, 11]), ([12], [12]), ([9, 13], [9, 13]), ([14], [14]), ([7, 15], [7, 15]), ([16], [16]), ([], [])])
def impl_namesFrom.B12 : List Nat := [0, 1, 0, 0, 12, 28, 63, 127, 0, 256, 0, 0, 3072, 7168, 16128, 32512, 65535, 131071, 0]
theorem impl_namesFrom.tab12 : rtab .any (opsOf Try.f61 12) = impl_namesFrom.T12 := by kernel_rfl
theorem impl_namesFrom.bits12 : waitsOk impl_namesFrom.T12.2 impl_namesFrom.B12 = true := by kernel_rfl
set_option maxHeartbeats 8000000 in
set_option maxRecDepth 100000 in
theorem impl_namesFrom.calls (k : Nat) (A0_0 : Option Addr) (c0_0 : Nat) (l0_0 : List Int) (A0_1 : Option Addr) (c0_1 : Nat) (l0_1 : List Int) (a1 : Int) (r : List Int) (w : World) (hr0_0 : Kd.C (Kd.int .i64) w A0_0 l0_0.length l0_0) (hc0_0 : l0_0.length ≤ c0_0) (hr0_1 : Kd.C (Kd.int .i64) w A0_1 l0_1.length l0_1) (hc0_1 : l0_1.length ≤ c0_1) (h : impl_namesFrom.f k l0_0 l0_1 a1 = some r) :
    Calls Try.prog 61 #[.agg #[.slice A0_0 l0_0.length c0_0, .slice A0_1 l0_1.length c0_1], .int .i64 a1] w fun e w' => ∃ v0_ : Value, e = .returned (v0_) ∧ Kd.R (Kd.int .i64) 3 w' w.heap.size (fun _ => True) v0_ r ∧ Below w.heap.size w w' := by
 have hu25 := Try.underlying25; have HR0_0 := A0_ hr0_0; have HC0_0 := A0_ hc0_0; clear hr0_0 hc0_0; have HR0_1 := A0_ hr0_1; have HC0_1 := A0_ hc0_1; clear hr0_1 hc0_1
 have HB := A0_ (Below.refl w.heap.size w)
 have H : (if 0 ≤ (l0_0.length : Int) then (if ((l0_0.length : Int) : Int).toNat ≤ 35184372088832 then ((some (List.replicate ((l0_0.length : Int) : Int).toNat 0 : List Int)).bind fun y436 => (impl_namesFrom.l0 k a1 y436 (y436.length : Int) 0 l0_0 l0_1)) else (none)) else (none)) = some r := h
 clear h
 by_cases c3 : 0 ≤ (l0_0.length : Int)
 ·rw [if_pos c3] at H
  have c3b0 := eq_true c3; have c3b1 := dT c3; clear c3
  by_cases c4 : ((l0_0.length : Int) : Int).toNat ≤ 35184372088832
  ·rw [if_pos c4] at H
   have c4b0 := eq_true c4; have c4b1 := dT c4; clear c4
   obtain ⟨y436, hy436⟩ : ∃ y_ : List Int, y_ = (List.replicate ((l0_0.length : Int) : Int).toNat 0) := ⟨_, rfl⟩
   replace H : (impl_namesFrom.l0 k a1 y436 (y436.length : Int) 0 l0_0 l0_1) = some r := zH hy436 H
   have Ny436 := A0_ hy436; clear hy436; have H' := A0_ H; clear H
   go_enter Try.func61, Try.ntmps61
   go_wp2_with (first | ((with_reducible refine gD (N := 2) rfl ?_); refine zX (N := 2) (cs := #[.slice A0_0 l0_0.length c0_0, .slice A0_1 l0_1.length c0_1]) (t := 25) ?_; intro gb435 hg w5 hbox hb; have BK435 := A0_ (hbox); have GW435 := zG hg HB; have GE435 := zG hg HB; replace HB := zB HB hb; clear hb hbox hg; have hcz6_0 := zc0 BK435; have hcz6_1 := zc1 BK435; have hfz6_0 := kF BK435.out 0; have hfz6_1 := kF BK435.out 1) | ((with_reducible refine gD (N := 14) rfl ?_); refine Kd.R_make (Kd.int .i64) _ 3 rfl (N := 14) rfl 23 _ _ rfl (l0_0.length : Int) rfl rfl Try.underlying23 (.int .i64 0) 8 info3 rfl (by decide) (by omega) 0 (ok := fun _ => True) (okp := fun _ => True) rfl (fun _ hk => hk) trivial (zd) (Nat.le_trans (Nat.mul_le_mul_right _ (zd : (l0_0.length : Int).toNat ≤ 35184372088832)) (by omega)) (Below.refl _ _) (Nat.le_refl _) ?_; intro v437 w7 ho8 hb hg_ hnew_; clear hg_ hnew_; (first | rw [← Ny436.out] at ho8 | (simp only [Int.reduceToNat] at ho8; rw [← Ny436.out] at ho8)); have HO438 := A0_ (rL ho8 (bZ (zB_ HB))); replace BK435 := zK BK435 hb; replace HB := zB HB hb; clear hb ho8; obtain ⟨Ao9, co9, eo9⟩ := rS HO438.out; subst eo9))
   go_loopg [17] k (fun kq v17 w' => ∃ (x5_1 : List Int) (x17_1 : Int), v17 = .int .i64 x17_1 ∧ Aside0 (impl_namesFrom.l0 kq a1 x5_1 (y436.length : Int) x17_1 l0_0 l0_1 = some r) ∧ Aside0 (kq ≤ k) ∧ Aside0 (Kd.R (Kd.int .i64) 3 w' w.heap.size (fun _ => True) (.slice Ao9 y436.length co9) x5_1) ∧ Aside0 (w'.heap[gb435]? = some (.cells #[(.slice A0_0 l0_0.length c0_0), (.slice A0_1 l0_1.length c0_1)] 25 (0, 0))) ∧ Aside0 (Below w.heap.size w w'))
   case atStart => exact ⟨(y436), (0), zt, H', ⟨Nat.le_refl _⟩, ⟨zR_ HO438⟩, ⟨zK_ BK435⟩, ⟨zB_ HB⟩⟩
   case round =>
    clear H'; (try clear p2); (try clear c3); (try clear c3b0); (try clear c3b1); (try clear c4); (try clear c4b0); (try clear c4b1); (try clear c6); (try clear hcz6_0); (try clear hcz6_1); (try clear hfz6_0); (try clear hfz6_1); obtain ⟨x5_1, x17_1, rfl, HA, HK1, HO_5, BK435, HB⟩ := hrel; have hl5_1 := (rR HO_5.out).1; rw [hl5_1] at HO_5; (try simp only [hl5_1]); (try simp only [hl5_1] at BK435)
    cases gk with
    | zero => exact absurd HA.out (by simp [impl_namesFrom.l0])
    | succ k1 =>
     have H := HA.out; clear HA; simp only [impl_namesFrom.l0] at H
     by_cases c10 : x17_1 < (y436.length : Int)
     ·rw [if_pos c10] at H
      have c10b0 := dT c10; (try simp only [hl5_1] at c10b0); clear c10
      by_cases c11 : 0 ≤ x17_1
      ·rw [if_pos c11] at H
       have c11b0 := dT c11; clear c11
       by_cases c12 : x17_1 < (x5_1.length : Int)
       ·rw [if_pos c12] at H
        have c12b0 := dT c12; (try simp only [hl5_1] at c12b0); clear c12
        obtain ⟨y439, hy439⟩ : ∃ y_ : List Int, y_ = (x5_1.set (x17_1 : Int).toNat (-1)) := ⟨_, rfl⟩
        replace H : (impl_namesFrom.l0 k1 a1 y439 (y436.length : Int) (wrap64 (x17_1 + 1)) l0_0 l0_1) = some r := zH hy439 H
        have Ny439 := A0_ hy439; clear hy439; have H' := A0_ H; clear H
        have p13 : 0 ≤ (x17_1 : Int) := zd
        have q13 : (x17_1 : Int) < ((x5_1.length : Int) : Int) := zd
        obtain ⟨go13, co13, eo13, gb13, gl13, cl13, HG13⟩ := Kd.R_form HO_5.out (by omega)
        (first | cases eo13 | (injection eo13 with ea_ en_ ec_; (first | subst ea_ | (injection ea_ with ea_; subst ea_)); subst ec_; clear en_))
        have GB13 := A0_ gb13; have GG13 := A0_ HG13; clear gb13 gl13 HG13
        obtain ⟨hx13_0, hf13_0⟩ := Kd.R_celln 0 HO_5.out (x17_1 : Int) p13 q13
        replace p13 := eq_true p13; replace q13 := eq_true q13
        have HP14 := Kd.R_putg HO_5.out (x17_1 : Int) (-1)
        go_wp2_with (first | ((with_reducible refine gS (t := 3) (p := 22) rfl ?_); refine store_event (t := 3) (p := 22) (v := ?vo_w15) (w1 := (wr.setCell ⟨go13, (x17_1 : Int).toNat, none⟩ (.int .i64 (-1)))) ?hg ?ho ?hn ?hr ?_; (case ho => rfl); (case hg => rfl); (case hn => rfl); (case hr => first | (go_simp; done) | (go_simp; rfl)); intro w15 hw; have hg : wr.grownBy w15 (some go13) := (by rw [hw]; exact HP14.2); have hp_ : Kd.R (Kd.int .i64) 3 w15 w.heap.size (fun _ => True) (.slice (some ⟨go13, 0, none⟩) x5_1.length co9) y439 := (by rw [hw, Ny439.out]; exact HP14.1); clear HP14; replace BK435 := A0_ (blk_grown (g := gb435) (o := .cells #[.slice A0_0 l0_0.length c0_0, .slice A0_1 l0_1.length c0_1] 25 (0, 0)) (zK_ BK435) hg (Kd.R_ne HO_5.out BK435.out (by decide))); replace HO_5 := A0_ (hp_); replace HB := A0_ ((by rw [hw]; exact bS (HB.out) GB13.out : Below w.heap.size w w15)); clear hg hw hp_))
        (try simp only [← hl5_1])
        go_roundg k1
        case measure => have := HK1.out; omega
        case rel => exact ⟨(y439), (wrap64 (x17_1 + 1)), zt, H', ⟨by have := HK1.out; omega⟩, ⟨by (try simp only [hl5_1]); (with_reducible repeat (first | apply rA | apply rN | apply rD)); exact HO_5.out⟩, ⟨by (try simp only [hl5_1]); (with_reducible repeat (first | refine kN ?_ _ | refine kD ?_ | refine kA ?_ _)); exact BK435.out⟩, ⟨zB_ HB⟩⟩
       rw [if_neg c12] at H
       exact absurd H (by simp)
      rw [if_neg c11] at H
      exact absurd H (by simp)
     rw [if_neg c10] at H; have c10b0 := dF c10; (try simp only [hl5_1] at c10b0); clear c10
     by_cases c16 : 0 ≤ a1
     ·rw [if_pos c16] at H
      have c16b0 := dT c16; clear c16
      by_cases c17 : a1 < (x5_1.length : Int)
      ·rw [if_pos c17] at H
       have c17b0 := dT c17; (try simp only [hl5_1] at c17b0); clear c17
       obtain ⟨y440, hy440⟩ : ∃ y_ : List Int, y_ = (x5_1.set (a1 : Int).toNat 0) := ⟨_, rfl⟩
       replace H : (impl_namesFrom.l1 k1 y440 (([a1] : List Int)) 0 l0_0 l0_1) = some r := zH hy440 H
       have Ny440 := A0_ hy440; clear hy440
       obtain ⟨y441, hy441⟩ : ∃ y_ : List Int, y_ = (([a1] : List Int)) := ⟨_, rfl⟩
       replace H : (impl_namesFrom.l1 k1 y440 y441 0 l0_0 l0_1) = some r := zH hy441 H
       have Ny441 := A0_ hy441; clear hy441; have H' := A0_ H; clear H
       have p18 : 0 ≤ (a1 : Int) := zd
       have q18 : (a1 : Int) < ((x5_1.length : Int) : Int) := zd
       obtain ⟨go18, co18, eo18, gb18, gl18, cl18, HG18⟩ := Kd.R_form HO_5.out (by omega)
       (first | cases eo18 | (injection eo18 with ea_ en_ ec_; (first | subst ea_ | (injection ea_ with ea_; subst ea_)); subst ec_; clear en_))
       have GB18 := A0_ gb18; have GG18 := A0_ HG18; clear gb18 gl18 HG18
       obtain ⟨hx18_0, hf18_0⟩ := Kd.R_celln 0 HO_5.out (a1 : Int) p18 q18
       replace p18 := eq_true p18; replace q18 := eq_true q18
       have HP19 := Kd.R_putg HO_5.out (a1 : Int) 0
       go_wp2_with (first | ((with_reducible refine gS (t := 3) (p := 26) rfl ?_); refine store_event (t := 3) (p := 26) (v := ?vo_w20) (w1 := (wr.setCell ⟨go18, (a1 : Int).toNat, none⟩ (.int .i64 0))) ?hg ?ho ?hn ?hr ?_; (case ho => rfl); (case hg => rfl); (case hn => rfl); (case hr => first | (go_simp; done) | (go_simp; rfl)); intro w20 hw; have hg : wr.grownBy w20 (some go18) := (by rw [hw]; exact HP19.2); have hp_ : Kd.R (Kd.int .i64) 3 w20 w.heap.size (fun _ => True) (.slice (some ⟨go18, 0, none⟩) x5_1.length co9) y440 := (by rw [hw, Ny440.out]; exact HP19.1); clear HP19; replace BK435 := A0_ (blk_grown (g := gb435) (o := .cells #[.slice A0_0 l0_0.length c0_0, .slice A0_1 l0_1.length c0_1] 25 (0, 0)) (zK_ BK435) hg (Kd.R_ne HO_5.out BK435.out (by decide))); replace HO_5 := A0_ (hp_); replace HB := A0_ ((by rw [hw]; exact bS (HB.out) GB18.out : Below w.heap.size w w20)); clear hg hw hp_) | ((with_reducible refine gD (N := 28) rfl ?_); refine Kd.R_lit (Kd.int .i64) _ 3 ?hg (N := 28) ?hd (xs := ([a1] : List Int)) (inner := [.int .i64 a1]) (ok := fun _ => True) (okp := fun _ => True) ?hr ?hp (fun _ hk => hk) trivial (Below.refl _ _) (Nat.le_refl _) (by simp) ?_; (case hd => rfl); (case hg => rfl); (case hr => first | (go_simp; done) | (go_simp; rfl)); (case hp => exact (Reps.one (show Kd.M (Kd.int .i64) _ _ _ a1 [.int .i64 a1] from rfl) (Reps.none _ _))); intro v442 w21 ho22 hb hg_ hnew_; clear hg_ hnew_; (first | rw [← Ny441.out] at ho22 | (simp only [Int.reduceToNat] at ho22; rw [← Ny441.out] at ho22)); have HO443 := A0_ (rL (Kd.R_new' ho22 (rX (zR_ HO_5))) (bZ (zB_ HB))); replace HO_5 := A0_ (Kd.R_elder' (zR_ HO_5) (Kd.R_base ho22) hb); replace BK435 := zK BK435 hb; replace HB := zB HB hb; clear hb ho22))
       go_loopg [7, 8] k1 (fun kq v7 v8 w' => ∃ (x5_2 : List Int) (x7_2 : List Int) (x8_2 : Int), v8 = .int .i64 x8_2 ∧ Aside0 (impl_namesFrom.l1 kq x5_2 x7_2 x8_2 l0_0 l0_1 = some r) ∧ Aside0 (kq ≤ k1) ∧ Aside0 (Kd.R (Kd.int .i64) 3 w' w.heap.size (fun k_ => some k_ ≠ (v7 : Value).ownBlock) (.slice (some ⟨go18, 0, none⟩) x5_1.length co9) x5_2) ∧ Aside0 (Kd.R (Kd.int .i64) 3 w' w.heap.size (fun k_ => some k_ ≠ ((.slice (some ⟨go18, 0, none⟩) x5_1.length co9) : Value).ownBlock) v7 x7_2) ∧ Aside0 (w'.heap[gb435]? = some (.cells #[(.slice A0_0 l0_0.length c0_0), (.slice A0_1 l0_1.length c0_1)] 25 (0, 0))) ∧ Aside0 (Below w.heap.size w w'))
       case atStart => exact ⟨(y440), (y441), (0), zt, H', ⟨Nat.le_refl _⟩, ⟨by (try simp only [hl5_1]); (with_reducible repeat (first | apply rA | apply rN | apply rD)); exact rM HO_5.out (fun _ hk => hk.2)⟩, ⟨by (try simp only [hl5_1]); (with_reducible repeat (first | apply rA | apply rN | apply rD)); exact rM HO443.out (fun _ hk => hk.2)⟩, ⟨by (try simp only [hl5_1]); (with_reducible repeat (first | refine kN ?_ _ | refine kD ?_ | refine kA ?_ _)); exact BK435.out⟩, ⟨zB_ HB⟩⟩
       case round =>
        clear H'; (try clear c1); (try clear p1); (try clear q1); (try clear hx1); (try clear p2); (try clear c3); (try clear c3b0); (try clear c3b1); (try clear c4); (try clear c4b0); (try clear c4b1); (try clear c6); (try clear p6); (try clear c10); (try clear c10b0); (try clear c11); (try clear c11b0); (try clear c12); (try clear c12b0); (try clear p13); (try clear q13); (try clear hx13); (try clear hf13); (try clear c16); (try clear c16b0); (try clear c17); (try clear c17b0); (try clear p18); (try clear q18); (try clear hx18); (try clear hf18); (try clear hcz6_0); (try clear hcz6_1); (try clear hfz6_0); (try clear hfz6_1); (try clear hx13_0); (try clear hx18_0); (try clear p13); (try clear p18); (try clear p2); (try clear q13); (try clear q18); obtain ⟨x5_2, x7_2, x8_2, rfl, HA, HK2, HO_5, HO_7, BK435, HB⟩ := hrel; have hl5_2 := (rR HO_5.out).1; rw [hl5_2] at HO_5; (try simp only [hl5_2]); (try simp only [hl5_2] at BK435); (try simp only [hl5_2] at HO_7)
        cases gk with
        | zero => exact absurd HA.out (by simp [impl_namesFrom.l1])
        | succ k2 =>
         have H := HA.out; clear HA; simp only [impl_namesFrom.l1] at H
         by_cases c23 : x8_2 < (x7_2.length : Int)
         ·rw [if_pos c23] at H
          have c23b0 := dT c23; (try simp only [hl5_1] at c23b0); (try simp only [hl5_2] at c23b0); clear c23
          by_cases c24 : 0 ≤ x8_2
          ·rw [if_pos c24] at H
           have c24b0 := dT c24; clear c24
           by_cases c25 : 0 ≤ (rd x7_2 x8_2)
           ·rw [if_pos c25] at H
            have c25b0 := dT c25; clear c25
            by_cases c26 : (rd x7_2 x8_2) < (l0_0.length : Int)
            ·rw [if_pos c26] at H
             have c26b0 := dT c26; (try simp only [hl5_1] at c26b0); (try simp only [hl5_2] at c26b0); clear c26
             by_cases c27 : (rd x7_2 x8_2) < (l0_1.length : Int)
             ·rw [if_pos c27] at H
              have c27b0 := dT c27; (try simp only [hl5_1] at c27b0); (try simp only [hl5_2] at c27b0); clear c27
              obtain ⟨y448, hy448⟩ : ∃ y_ : List Int, y_ = (([rd l0_0 (rd x7_2 x8_2), rd l0_1 (rd x7_2 x8_2)] : List Int)) := ⟨_, rfl⟩
              replace H : (impl_namesFrom.l2 k2 x5_2 x7_2 x8_2 y448 (y448.length : Int) 0 l0_0 l0_1) = some r := zH hy448 H
              have Ny448 := A0_ hy448; clear hy448; have H' := A0_ H; clear H; obtain ⟨Ao28, co28, eo28⟩ := rS HO_7.out; subst eo28
              try go_wp2
              replace HO_5 := A0_ (rD HO_5.out)
              replace HO_7 := A0_ (rD HO_7.out)
              replace BK435 := A0_ (kD BK435.out)
              replace HB := A0_ (bD HB.out)
              have p444 : 0 ≤ (x8_2 : Int) := zd
              have q444 : x8_2 < (x7_2.length : Int) := zd
              obtain ⟨ad444, e444, hx444_0⟩ := tI (rR HO_7.out).2.2 x8_2 p444 q444
              cases e444
              replace p444 := eq_true p444; replace q444 := eq_true q444
              have p445 : 0 ≤ ((rd x7_2 x8_2) : Int) := zd
              have q445 : (rd x7_2 x8_2) < (l0_0.length : Int) := zd
              obtain ⟨ad445, e445, hx445_0⟩ := tI HR0_0.out (rd x7_2 x8_2) p445 q445
              have hw445_0 := hx445_0
              cases e445
              try replace hx445_0 := (HB.out.cell (wL w _ hx445_0)).trans hx445_0
              replace p445 := eq_true p445; replace q445 := eq_true q445
              have p446 : 0 ≤ (x8_2 : Int) := zd
              have q446 : x8_2 < (x7_2.length : Int) := zd
              obtain ⟨ad446, e446, hx446_0⟩ := tI (rR HO_7.out).2.2 x8_2 p446 q446
              obtain rfl : ad444 = ad446 := (by injection e446)
              replace p446 := eq_true p446; replace q446 := eq_true q446
              have p447 : 0 ≤ ((rd x7_2 x8_2) : Int) := zd
              have q447 : (rd x7_2 x8_2) < (l0_1.length : Int) := zd
              obtain ⟨ad447, e447, hx447_0⟩ := tI HR0_1.out (rd x7_2 x8_2) p447 q447
              have hw447_0 := hx447_0
              cases e447
              try replace hx447_0 := (HB.out.cell (wL w _ hx447_0)).trans hx447_0
              replace p447 := eq_true p447; replace q447 := eq_true q447
              refine start_ (n := 19) (S := fun w' => w'.cell? ⟨gb435, 0, none⟩ = some (.slice (some ad445) l0_0.length c0_0) ∧ w'.cell? ⟨gb435, 1, none⟩ = some (.slice (some ad447) l0_1.length c0_1) ∧ w'.cell? (ad444.add (x8_2).toNat) = some (.int .i64 (rd x7_2 x8_2)) ∧ w'.cell? (ad445.add ((rd x7_2 x8_2)).toNat) = some (.int .i64 (rd l0_0 (rd x7_2 x8_2))) ∧ w'.cell? (ad444.add (x8_2).toNat) = some (.int .i64 (rd x7_2 x8_2)) ∧ w'.cell? (ad447.add ((rd x7_2 x8_2)).toNat) = some (.int .i64 (rd l0_1 (rd x7_2 x8_2)))) (ds := []) #[false, false, false, false, false, false, false, false, false, false, false, false, false, false, false, false, false, false, false] (by kernel_rfl) rfl rfl ⟨(kC BK435.out 0).trans rfl, (kC BK435.out 1).trans rfl, hx444_0, ((HB.out.cell (wL w _ hw445_0)).trans hw445_0), hx446_0, ((HB.out.cell (wL w _ hw447_0)).trans hw447_0)⟩ (fun hHeld => ?_); refine with_tabW impl_namesFrom.tab12 impl_namesFrom.bits12 (fun HT_ HW_ => ?_)
              generalize wr.drew = w29 at HO_5 HO_7 BK435 HB hx444_0 hx445_0 hx446_0 hx447_0 hHeld ⊢
              refine zP 0 (some 35) #[true,false,false,false,false,false,false,false,false,false,false,false,false,false,false,false,false,false,false] ?_
              refine zP 2 (some 37) #[true,false,true,false,false,false,false,false,false,false,false,false,false,false,false,false,false,false,false] ?_
              refine zP 3 (some 38) #[true,false,true,true,false,false,false,false,false,false,false,false,false,false,false,false,false,false,false] ?_
              refine zP 4 (some 39) #[true,false,true,true,true,false,false,false,false,false,false,false,false,false,false,false,false,false,false] ?_
              refine zP 8 (some 43) #[true,false,true,true,true,false,false,false,true,false,false,false,false,false,false,false,false,false,false] ?_
              refine zP 10 (some 45) #[true,false,true,true,true,false,false,false,true,false,true,false,false,false,false,false,false,false,false] ?_
              refine zP 11 (some 46) #[true,false,true,true,true,false,false,false,true,false,true,true,false,false,false,false,false,false,false] ?_
              refine zP 12 (some 47) #[true,false,true,true,true,false,false,false,true,false,true,true,true,false,false,false,false,false,false] ?_
              refine zP 18 (some 53) #[true,false,true,true,true,false,false,false,true,false,true,true,true,false,false,false,false,false,true] ?_
              refine take_ (i := 1) (N := some 36) (v := ?_) (a' := ?_) #[true, true, true, true, true, false, false, false, true, false, true, true, true, false, false, false, false, false, true] rfl rfl (take_ofW HT_.out HW_.out (by kernel_rfl)) (fun _ _ _ h => h) (Or.inl ⟨by rfl, ?_⟩) hHeld ?_ ?_
              rotate_left
              ·rintro w' ⟨s0, s1, s2, s3, s4, s5⟩
               go_simp
               with_reducible rfl
              rotate_left
              ·simp only [Act.put, List.setIfInBounds_toArray, List.set_cons_zero, List.set_cons_succ, i64_w, i32_w]
               rfl
              refine take_ (i := 5) (N := some 40) (v := ?_) (a' := ?_) #[true, true, true, true, true, true, false, false, true, false, true, true, true, false, false, false, false, false, true] rfl rfl (take_ofW HT_.out HW_.out (by kernel_rfl)) (fun _ _ _ h => h) (Or.inl ⟨by rfl, ?_⟩) hHeld ?_ ?_
              rotate_left
              ·rintro w' ⟨s0, s1, s2, s3, s4, s5⟩
               go_simp
               with_reducible rfl
              rotate_left
              ·simp only [Act.put, List.setIfInBounds_toArray, List.set_cons_zero, List.set_cons_succ, i64_w, i32_w]
               rfl
              refine zP 6 (some 41) #[true,true,true,true,true,true,true,false,true,false,true,true,true,false,false,false,false,false,true] ?_
              refine take_ (i := 7) (N := some 42) (v := ?_) (a' := ?_) #[true, true, true, true, true, true, true, true, true, false, true, true, true, false, false, false, false, false, true] rfl rfl (take_ofW HT_.out HW_.out (by kernel_rfl)) (fun _ _ _ h => h) (Or.inl ⟨by rfl, ?_⟩) hHeld ?_ ?_
              rotate_left
              ·rintro w' ⟨s0, s1, s2, s3, s4, s5⟩
               go_simp
               with_reducible rfl
              rotate_left
              ·simp only [Act.put, List.setIfInBounds_toArray, List.set_cons_zero, List.set_cons_succ, i64_w, i32_w]
               rfl
              refine take_ (i := 9) (N := some 44) (v := ?_) (a' := ?_) #[true, true, true, true, true, true, true, true, true, true, true, true, true, false, false, false, false, false, true] rfl rfl (take_ofW HT_.out HW_.out (by kernel_rfl)) (fun _ _ _ h => h) (Or.inl ⟨by rfl, ?_⟩) hHeld ?_ ?_
              rotate_left
              ·rintro w' ⟨s0, s1, s2, s3, s4, s5⟩
               go_simp
               with_reducible rfl
              rotate_left
              ·simp only [Act.put, List.setIfInBounds_toArray, List.set_cons_zero, List.set_cons_succ, i64_w, i32_w]
               rfl
              refine take_ (i := 13) (N := some 48) (v := ?_) (a' := ?_) #[true, true, true, true, true, true, true, true, true, true, true, true, true, true, false, false, false, false, true] rfl rfl (take_ofW HT_.out HW_.out (by kernel_rfl)) (fun _ _ _ h => h) (Or.inl ⟨by rfl, ?_⟩) hHeld ?_ ?_
              rotate_left
              ·rintro w' ⟨s0, s1, s2, s3, s4, s5⟩
               go_simp
               with_reducible rfl
              rotate_left
              ·simp only [Act.put, List.setIfInBounds_toArray, List.set_cons_zero, List.set_cons_succ, i64_w, i32_w]
               rfl
              refine zP 14 (some 49) #[true,true,true,true,true,true,true,true,true,true,true,true,true,true,true,false,false,false,true] ?_
              refine take_ (i := 15) (N := some 50) (v := ?_) (a' := ?_) #[true, true, true, true, true, true, true, true, true, true, true, true, true, true, true, true, false, false, true] rfl rfl (take_ofW HT_.out HW_.out (by kernel_rfl)) (fun _ _ _ h => h) (Or.inl ⟨by rfl, ?_⟩) hHeld ?_ ?_
              rotate_left
              ·rintro w' ⟨s0, s1, s2, s3, s4, s5⟩
               go_simp
               with_reducible rfl
              rotate_left
              ·simp only [Act.put, List.setIfInBounds_toArray, List.set_cons_zero, List.set_cons_succ, i64_w, i32_w]
               rfl
              refine one_ (i := 16) (N := some 51) #[true, true, true, true, true, true, true, true, true, true, true, true, true, true, true, true, true, false, true] rfl rfl (one_of HT_.out (by kernel_rfl)) (by decide) (fun K hK => ?_)
              refine Kd.R_lit_step (Kd.int .i64) _ 3 ?hg (N := 51) ?hd (xs := ([rd l0_0 (rd x7_2 x8_2), rd l0_1 (rd x7_2 x8_2)] : List Int)) (inner := [.int .i64 (rd l0_0 (rd x7_2 x8_2)), .int .i64 (rd l0_1 (rd x7_2 x8_2))]) (ok := fun _ => True) (okp := fun _ => True) ?hr ?hp (fun _ hk => hk) trivial (Below.refl _ _) (Nat.le_refl _) (by simp) ?_; (case hd => rfl); (case hg => rfl); (case hr => first | (go_simp; done) | (go_simp; rfl)); (case hp => exact (Reps.one (show Kd.M (Kd.int .i64) _ _ _ (rd l0_0 (rd x7_2 x8_2)) [.int .i64 (rd l0_0 (rd x7_2 x8_2))] from rfl) (Reps.one (show Kd.M (Kd.int .i64) _ _ _ (rd l0_1 (rd x7_2 x8_2)) [.int .i64 (rd l0_1 (rd x7_2 x8_2))] from rfl) (Reps.none _ _))))
              intro v449 w30 ho31 hb hg_ hnew_
              have HS2_ := (hb.cell (wL _ _ (hHeld.2.2.1))).trans (hHeld.2.2.1)
              have HS4_ := (hb.cell (wL _ _ (hHeld.2.2.2.2.1))).trans (hHeld.2.2.2.2.1)
              clear hg_ hnew_
              (first | rw [← Ny448.out] at ho31 | (simp only [Int.reduceToNat] at ho31; rw [← Ny448.out] at ho31))
              have HO450 := A0_ (rL (Kd.R_new' (Kd.R_new' ho31 (rX (zR_ HO_5))) (rX (zR_ HO_7))) (bZ (zB_ HB)))
              replace HO_5 := A0_ (Kd.R_elder' (zR_ HO_5) (Kd.R_base ho31) hb)
              replace HO_7 := A0_ (Kd.R_elder' (zR_ HO_7) (Kd.R_base ho31) hb)
              replace BK435 := zK BK435 hb; replace HB := zB HB hb; clear hb ho31; obtain ⟨Ao32, co32, eo32⟩ := rS HO450.out
              (first | subst eo32 | (injection eo32 with f1_ f2_ f3_; have f4_ := f1_.symm; have f5_ := f3_.symm; clear f1_ f2_ f3_; subst f4_; subst f5_))
              refine hK.out _ _ ⟨(kC BK435.out 0).trans rfl, (kC BK435.out 1).trans rfl, HS2_, ((HB.out.cell (wL w _ hw445_0)).trans hw445_0), HS4_, ((HB.out.cell (wL w _ hw447_0)).trans hw447_0)⟩ (fun hHeld => ?_)
              clear hK K
              refine norm_ (a' := ?_) ?_ ?_
              rotate_left
              ·show Act.put _ (some 51) _ = _
               simp only [Act.put, List.setIfInBounds_toArray, List.set_cons_zero, List.set_cons_succ, i64_w, i32_w]
               rfl
              refine zP 17 (some 52) #[true,true,true,true,true,true,true,true,true,true,true,true,true,true,true,true,true,true,true] ?_
              refine done_ (done_of HT_.out (by kernel_rfl)) ?_
              try go_wp2
              (try generalize Value.pointer (some (ad444.add (x8_2 : Int).toNat)) = pz_)
              (try generalize Value.pointer (some (ad446.add (x8_2 : Int).toNat)) = pz_)
              go_loopg [7, 53] k2 (fun kq v7 v53 w' => ∃ (x5_3 : List Int) (x7_3 : List Int) (x53_3 : Int), v53 = .int .i64 x53_3 ∧ Aside0 (impl_namesFrom.l2 kq x5_3 x7_3 x8_2 y448 (y448.length : Int) x53_3 l0_0 l0_1 = some r) ∧ Aside0 (kq ≤ k2) ∧ Aside0 (Kd.R (Kd.int .i64) 3 w' w.heap.size (fun k_ => some k_ ≠ (v7 : Value).ownBlock ∧ some k_ ≠ ((.slice Ao32 y448.length co32) : Value).ownBlock) (.slice (some ⟨go18, 0, none⟩) x5_2.length co9) x5_3) ∧ Aside0 (Kd.R (Kd.int .i64) 3 w' w.heap.size (fun k_ => some k_ ≠ ((.slice (some ⟨go18, 0, none⟩) x5_2.length co9) : Value).ownBlock ∧ some k_ ≠ ((.slice Ao32 y448.length co32) : Value).ownBlock) v7 x7_3) ∧ Aside0 (Kd.R (Kd.int .i64) 3 w' w.heap.size (fun k_ => some k_ ≠ ((.slice (some ⟨go18, 0, none⟩) x5_2.length co9) : Value).ownBlock ∧ some k_ ≠ (v7 : Value).ownBlock) (.slice Ao32 y448.length co32) y448) ∧ Aside0 (w'.heap[gb435]? = some (.cells #[(.slice (some ad445) l0_0.length c0_0), (.slice (some ad447) l0_1.length c0_1)] 25 (0, 0))) ∧ Aside0 (Below w.heap.size w w'))
              case atStart => exact ⟨(x5_2), (x7_2), (0), zt, H', ⟨Nat.le_refl _⟩, ⟨by (try simp only [hl5_1]); (try simp only [hl5_2]); (with_reducible repeat (first | apply rA | apply rN | apply rD)); exact HO_5.out⟩, ⟨by (try simp only [hl5_1]); (try simp only [hl5_2]); (with_reducible repeat (first | apply rA | apply rN | apply rD)); exact HO_7.out⟩, ⟨by (try simp only [hl5_1]); (try simp only [hl5_2]); (with_reducible repeat (first | apply rA | apply rN | apply rD)); exact rM HO450.out (fun _ hk => ⟨hk.1.2, hk.2⟩)⟩, ⟨by (try simp only [hl5_1]); (try simp only [hl5_2]); (with_reducible repeat (first | refine kN ?_ _ | refine kD ?_ | refine kA ?_ _)); exact BK435.out⟩, ⟨zB_ HB⟩⟩
              case round =>
               clear H'; (try clear c1); (try clear p1); (try clear q1); (try clear hx1); (try clear c2); (try clear p2); (try clear c3); (try clear c3b0); (try clear c3b1); (try clear c4); (try clear c4b0); (try clear c4b1); (try clear p4); (try clear q4); (try clear hx4); (try clear c6); (try clear p6); (try clear c10); (try clear c10b0); (try clear c11); (try clear c11b0); (try clear c12); (try clear c12b0); (try clear p13); (try clear q13); (try clear hx13); (try clear hf13); (try clear c16); (try clear c16b0); (try clear c17); (try clear c17b0); (try clear p18); (try clear q18); (try clear hx18); (try clear hf18); (try clear c23); (try clear c23b0); (try clear c24); (try clear c24b0); (try clear c25); (try clear c25b0); (try clear c26); (try clear c26b0); (try clear c27); (try clear c27b0); (try clear hcz6_0); (try clear hcz6_1); (try clear hfz6_0); (try clear hfz6_1); (try clear hx13_0); (try clear hx18_0); (try clear hx444_0); (try clear hx445_0); (try clear hx446_0); (try clear hx447_0); (try clear p1); (try clear p13); (try clear p18); (try clear p2); (try clear p444); (try clear p445); (try clear p446); (try clear p447); (try clear p6); (try clear q1); (try clear q13); (try clear q18); (try clear q444); (try clear q445); (try clear q446); (try clear q447); obtain ⟨x5_3, x7_3, x53_3, rfl, HA, HK3, HO_5, HO_7, HO_51, BK435, HB⟩ := hrel; have hl5_3 := (rR HO_5.out).1; rw [hl5_3] at HO_5; (try simp only [hl5_3]); (try simp only [hl5_3] at BK435); (try simp only [hl5_3] at HO_7); (try simp only [hl5_3] at HO_51)
               cases gk with
               | zero => exact absurd HA.out (by simp [impl_namesFrom.l2])
               | succ k3 =>
                have H := HA.out; clear HA; simp only [impl_namesFrom.l2] at H
                by_cases c33 : x53_3 < (y448.length : Int)
                ·rw [if_pos c33] at H
                 have c33b0 := dT c33; (try simp only [hl5_1] at c33b0); (try simp only [hl5_2] at c33b0); (try simp only [hl5_3] at c33b0); clear c33
                 by_cases c34 : 0 ≤ x53_3
                 ·rw [if_pos c34] at H
                  have c34b0 := dT c34; clear c34
                  by_cases c35 : x53_3 < (y448.length : Int)
                  ·rw [if_pos c35] at H
                   have c35b0 := dT c35; (try simp only [hl5_1] at c35b0); (try simp only [hl5_2] at c35b0); (try simp only [hl5_3] at c35b0); clear c35
                   by_cases c36 : 0 ≤ (rd y448 x53_3)
                   ·rw [if_pos c36] at H
                    have c36b0 := dT c36; clear c36
                    by_cases c37 : (rd y448 x53_3) < (x5_3.length : Int)
                    ·rw [if_pos c37] at H
                     have c37b0 := dT c37; (try simp only [hl5_1] at c37b0); (try simp only [hl5_2] at c37b0); (try simp only [hl5_3] at c37b0); clear c37
                     by_cases c38 : (rd x5_3 (rd y448 x53_3)) < 0
                     ·rw [if_pos c38] at H
                      have c38b0 := dT c38; clear c38
                      obtain ⟨y453, hy453⟩ : ∃ y_ : List Int, y_ = (x5_3.set ((rd y448 x53_3) : Int).toNat (x7_3.length : Int)) := ⟨_, rfl⟩
                      replace H : (if x7_3.length < 17592186044416 then (impl_namesFrom.l2 k3 y453 (x7_3 ++ [rd y448 x53_3]) x8_2 y448 (y448.length : Int) (wrap64 (x53_3 + 1)) l0_0 l0_1) else (none)) = some r := zH hy453 H
                      have Ny453 := A0_ hy453; clear hy453
                      by_cases c40 : x7_3.length < 17592186044416
                      ·rw [if_pos c40] at H
                       have LMc40 := A0_ c40; clear c40
                       obtain ⟨y454, hy454⟩ : ∃ y_ : List Int, y_ = (x7_3 ++ [rd y448 x53_3]) := ⟨_, rfl⟩
                       replace H : (impl_namesFrom.l2 k3 y453 y454 x8_2 y448 (y448.length : Int) (wrap64 (x53_3 + 1)) l0_0 l0_1) = some r := zH hy454 H
                       have Ny454 := A0_ hy454; clear hy454; have H' := A0_ H; clear H
                       have p451 : 0 ≤ (x53_3 : Int) := zd
                       have q451 : x53_3 < (y448.length : Int) := zd
                       obtain ⟨ad451, e451, hx451_0⟩ := tI (rR HO_51.out).2.2 x53_3 p451 q451
                       cases e451
                       replace p451 := eq_true p451; replace q451 := eq_true q451
                       have p452 : 0 ≤ ((rd y448 x53_3) : Int) := zd
                       have q452 : (rd y448 x53_3) < (x5_3.length : Int) := zd
                       obtain ⟨ad452, e452, hx452_0⟩ := tI (rR HO_5.out).2.2 (rd y448 x53_3) p452 q452
                       obtain rfl : (⟨go18, 0, none⟩ : Addr) = ad452 := (by injection e452)
                       (first | simp only [add_plain] at hx452_0 | simp only [add_at] at hx452_0 | simp only [Addr.add, Nat.zero_add] at hx452_0 | skip)
                       replace p452 := eq_true p452; replace q452 := eq_true q452; obtain ⟨Ao41, co41, eo41⟩ := rS HO_7.out; subst eo41
                       have p39 : 0 ≤ ((rd y448 x53_3) : Int) := zd
                       have q39 : ((rd y448 x53_3) : Int) < ((x5_3.length : Int) : Int) := zd
                       obtain ⟨hx39_0, hf39_0⟩ := Kd.R_celln 0 HO_5.out ((rd y448 x53_3) : Int) p39 q39
                       replace p39 := eq_true p39; replace q39 := eq_true q39
                       have HP42 := Kd.R_putg HO_5.out ((rd y448 x53_3) : Int) (x7_3.length : Int)
                       go_wp2_with (first | ((with_reducible refine gS (t := 3) (p := 66) rfl ?_); refine store_event (t := 3) (p := 66) (v := ?vo_w43) (w1 := (wr.setCell ⟨go18, ((rd y448 x53_3) : Int).toNat, none⟩ (.int .i64 (x7_3.length : Int)))) ?hg ?ho ?hn ?hr ?_; (case ho => rfl); (case hg => rfl); (case hn => rfl); (case hr => first | (go_simp; done) | (go_simp; rfl)); intro w43 hw; have hg : wr.grownBy w43 (some go18) := (by rw [hw]; exact HP42.2); have hp_ : Kd.R (Kd.int .i64) 3 w43 w.heap.size (fun k_ => some k_ ≠ (.slice Ao41 x7_3.length co41 : Value).ownBlock ∧ some k_ ≠ (.slice (some ad451) y448.length co32 : Value).ownBlock) (.slice (some ⟨go18, 0, none⟩) x5_3.length co9) y453 := (by rw [hw, Ny453.out]; exact HP42.1); clear HP42; replace HO_7 := A0_ (Kd.R_after (v := (.slice (some ⟨go18, 0, none⟩) x5_3.length co9)) (v1 := (.slice (some ⟨go18, 0, none⟩) x5_3.length co9)) (ok := (fun k_ => some k_ ≠ (.slice (some ad451) y448.length co32 : Value).ownBlock)) (zmR HO_7 (fun _ hk => ⟨hk.2, hk.1⟩)) hg (.inl rfl)); replace HO_51 := A0_ (Kd.R_after (v := (.slice (some ⟨go18, 0, none⟩) x5_3.length co9)) (v1 := (.slice (some ⟨go18, 0, none⟩) x5_3.length co9)) (ok := (fun k_ => some k_ ≠ (.slice Ao41 x7_3.length co41 : Value).ownBlock)) (zmR HO_51 (fun _ hk => ⟨hk.2, hk.1⟩)) hg (.inl rfl)); replace BK435 := A0_ (blk_grown (g := gb435) (o := .cells #[.slice (some ad445) l0_0.length c0_0, .slice (some ad447) l0_1.length c0_1] 25 (0, 0)) (zK_ BK435) hg (Kd.R_ne HO_5.out BK435.out (by decide))); replace HO_5 := A0_ (hp_); replace HB := A0_ ((by rw [hw]; exact bS (HB.out) GB18.out : Below w.heap.size w w43)); clear hg hw hp_) | ((with_reducible refine gB (b := .append) (xs := #[.tmp 67, .tmp 69]) rfl ?_); at_builtin; refine Kd.R_append (Kd.int .i64) (w0 := w) w.heap.size rfl (.tmp 67) (.tmp 69) 23 3 (.int .i64 0) 8 rfl Try.underlying23 info3 rfl (by decide) (by omega) (.slice Ao41 x7_3.length co41) x7_3 (rd y448 x53_3) [.int .i64 (rd y448 x53_3)] (fun k_ => some k_ ≠ (.slice (some ⟨go18, 0, none⟩) x5_3.length co9 : Value).ownBlock ∧ some k_ ≠ (.slice (some ad451) y448.length co32 : Value).ownBlock) (fun _ => False) rfl rfl ?aP (fun _ hk => hk.elim) ?aF ?aO ?aB ?aS ?aL ?_; (case aP => exact rfl); (case aB => exact (zB_ HB)); (case aF => exact (fun k_ hk => ⟨Kd.fresh' (rX (zR_ HO_5)) k_ hk, Kd.fresh' (rX (zR_ HO_51)) k_ hk⟩)); (case aO => exact (zmR HO_7 (fun _ hk => ⟨hk.2, hk.1⟩))); (case aS => exact (bZ (zB_ HB))); (case aL => have := LMc40.out; omega); intro v455 w44 ho hb hg hat; rw [← Ny454.out] at ho; replace HO_5 := A0_ (Kd.R_after (ok := (fun k_ => some k_ ≠ (.slice (some ad451) y448.length co32 : Value).ownBlock)) (zmR HO_5 (fun _ hk => ⟨hk.2, hk.1⟩)) hg hat); replace HO_51 := A0_ (Kd.R_after (ok := (fun k_ => some k_ ≠ (.slice (some ⟨go18, 0, none⟩) x5_3.length co9 : Value).ownBlock)) (zmR HO_51 (fun _ hk => ⟨hk.2, hk.1⟩)) hg hat); replace BK435 := A0_ (blk_grown (g := gb435) (o := .cells #[.slice (some ad445) l0_0.length c0_0, .slice (some ad447) l0_1.length c0_1] 25 (0, 0)) (zK_ BK435) hg (Kd.R_ne HO_7.out BK435.out (by decide))); replace HB := A0_ (hb); have HO456 := A0_ (ho); clear HO_7 ho hb hg hat))
                       (try simp only [← hl5_3])
                       go_roundg k3
                       case measure => have := HK1.out; have := HK2.out; have := HK3.out; omega
                       case rel => exact ⟨(y453), (y454), (wrap64 (x53_3 + 1)), zt, H', ⟨by have := HK1.out; have := HK2.out; have := HK3.out; omega⟩, ⟨by (try simp only [hl5_1]); (try simp only [hl5_2]); (try simp only [hl5_3]); (with_reducible repeat (first | apply rA | apply rN | apply rD)); exact rM HO_5.out (fun _ hk => ⟨hk.2, hk.1⟩)⟩, ⟨by (try simp only [hl5_1]); (try simp only [hl5_2]); (try simp only [hl5_3]); (with_reducible repeat (first | apply rA | apply rN | apply rD)); exact HO456.out⟩, ⟨by (try simp only [hl5_1]); (try simp only [hl5_2]); (try simp only [hl5_3]); (with_reducible repeat (first | apply rA | apply rN | apply rD)); exact HO_51.out⟩, ⟨by (try simp only [hl5_1]); (try simp only [hl5_2]); (try simp only [hl5_3]); (with_reducible repeat (first | refine kN ?_ _ | refine kD ?_ | refine kA ?_ _)); exact BK435.out⟩, ⟨zB_ HB⟩⟩
                      rw [if_neg c40] at H
                      exact absurd H (by simp)
                     rw [if_neg c38] at H; have c38b0 := dF c38; clear c38; have H' := A0_ H; clear H
                     have p451 : 0 ≤ (x53_3 : Int) := zd
                     have q451 : x53_3 < (y448.length : Int) := zd
                     obtain ⟨ad451, e451, hx451_0⟩ := tI (rR HO_51.out).2.2 x53_3 p451 q451
                     cases e451
                     replace p451 := eq_true p451; replace q451 := eq_true q451
                     have p452 : 0 ≤ ((rd y448 x53_3) : Int) := zd
                     have q452 : (rd y448 x53_3) < (x5_3.length : Int) := zd
                     obtain ⟨ad452, e452, hx452_0⟩ := tI (rR HO_5.out).2.2 (rd y448 x53_3) p452 q452
                     obtain rfl : (⟨go18, 0, none⟩ : Addr) = ad452 := (by injection e452)
                     (first | simp only [add_plain] at hx452_0 | simp only [add_at] at hx452_0 | simp only [Addr.add, Nat.zero_add] at hx452_0 | skip)
                     replace p452 := eq_true p452; replace q452 := eq_true q452
                     go_wp2
                     (try simp only [← hl5_3])
                     go_roundg k3
                     case measure => have := HK1.out; have := HK2.out; have := HK3.out; omega
                     case rel => exact ⟨(x5_3), (x7_3), (wrap64 (x53_3 + 1)), zt, H', ⟨by have := HK1.out; have := HK2.out; have := HK3.out; omega⟩, ⟨by (try simp only [hl5_1]); (try simp only [hl5_2]); (try simp only [hl5_3]); (with_reducible repeat (first | apply rA | apply rN | apply rD)); exact HO_5.out⟩, ⟨by (try simp only [hl5_1]); (try simp only [hl5_2]); (try simp only [hl5_3]); (with_reducible repeat (first | apply rA | apply rN | apply rD)); exact HO_7.out⟩, ⟨by (try simp only [hl5_1]); (try simp only [hl5_2]); (try simp only [hl5_3]); (with_reducible repeat (first | apply rA | apply rN | apply rD)); exact HO_51.out⟩, ⟨by (try simp only [hl5_1]); (try simp only [hl5_2]); (try simp only [hl5_3]); (with_reducible repeat (first | refine kN ?_ _ | refine kD ?_ | refine kA ?_ _)); exact BK435.out⟩, ⟨zB_ HB⟩⟩
                    rw [if_neg c37] at H
                    exact absurd H (by simp)
                   rw [if_neg c36] at H
                   exact absurd H (by simp)
                  rw [if_neg c35] at H
                  exact absurd H (by simp)
                 rw [if_neg c34] at H
                 exact absurd H (by simp)
                rw [if_neg c33] at H; have c33b0 := dF c33; (try simp only [hl5_1] at c33b0); (try simp only [hl5_2] at c33b0); (try simp only [hl5_3] at c33b0); clear c33; have H' := A0_ H; clear H
                go_wp2
                (try simp only [← hl5_2, ← hl5_3])
                go_roundg k3
                case measure => have := HK1.out; have := HK2.out; have := HK3.out; omega
                case rel => exact ⟨(x5_3), (x7_3), (wrap64 (x8_2 + 1)), zt, H', ⟨by have := HK1.out; have := HK2.out; have := HK3.out; omega⟩, ⟨by (try simp only [hl5_1]); (try simp only [hl5_2]); (try simp only [hl5_3]); (with_reducible repeat (first | apply rA | apply rN | apply rD)); exact rM HO_5.out (fun _ hk => hk.1)⟩, ⟨by (try simp only [hl5_1]); (try simp only [hl5_2]); (try simp only [hl5_3]); (with_reducible repeat (first | apply rA | apply rN | apply rD)); exact rM HO_7.out (fun _ hk => hk.1)⟩, ⟨by (try simp only [hl5_1]); (try simp only [hl5_2]); (try simp only [hl5_3]); (with_reducible repeat (first | refine kN ?_ _ | refine kD ?_ | refine kA ?_ _)); exact BK435.out⟩, ⟨zB_ HB⟩⟩
             rw [if_neg c27] at H
             exact absurd H (by simp)
            rw [if_neg c26] at H
            exact absurd H (by simp)
           rw [if_neg c25] at H
           exact absurd H (by simp)
          rw [if_neg c24] at H
          exact absurd H (by simp)
         rw [if_neg c23] at H; have c23b0 := dF c23; (try simp only [hl5_1] at c23b0); (try simp only [hl5_2] at c23b0); clear c23; obtain rfl := sI H; obtain ⟨Ao45, co45, eo45⟩ := rS HO_7.out; subst eo45
         go_wp2
         go_ret
         exact ⟨_, by first | rfl | (simp [*] <;> rfl), zmR HO_5 (fun _ hk => trivial), zB_ HB⟩
      rw [if_neg c17] at H
      exact absurd H (by simp)
     rw [if_neg c16] at H
     exact absurd H (by simp)
  rw [if_neg c4] at H
  exact absurd H (by simp)
 rw [if_neg c3] at H
 exact absurd H (by simp)

/-! ### impl_mul: function 69 -/
def impl_mul.l0 : Nat → List Int → List Int → List Int → Int → Int → Option (List Int)
  | 0, _, _, _, _, _ => none
  | k + 1, x1, x5, x11, x12, x13 => if x13 < x12 then (if 0 ≤ x13 then (if x13 < (x11.length : Int) then (if 0 ≤ (rd x11 x13) then (if (rd x11 x13) < (x1.length : Int) then (if x13 < (x5.length : Int) then (impl_mul.l0 k x1 (x5.set (x13 : Int).toNat (rd x1 (rd x11 x13))) x11 x12 (wrap64 (x13 + 1))) else (none)) else (none)) else (none)) else (none)) else (none)) else (some x5)
def impl_mul.f (k : Nat) (l0 : List Int) (l1 : List Int) : Option (List Int) := if 0 ≤ (l0.length : Int) then (if ((l0.length : Int) : Int).toNat ≤ 35184372088832 then (impl_mul.l0 k l1 (List.replicate ((l0.length : Int) : Int).toNat 0) l0 (l0.length : Int) 0) else (none)) else (none)
set_option maxHeartbeats 8000000 in
set_option maxRecDepth 100000 in
theorem impl_mul.calls (k : Nat) (A0 : Option Addr) (c0 : Nat) (l0 : List Int) (A1 : Option Addr) (c1 : Nat) (l1 : List Int) (r : List Int) (w : World) (hr0 : Kd.C (Kd.int .i64) w A0 l0.length l0) (hc0 : l0.length ≤ c0) (hr1 : Kd.C (Kd.int .i64) w A1 l1.length l1) (hc1 : l1.length ≤ c1) (h : impl_mul.f k l0 l1 = some r) :
    Calls Try.prog 69 #[.slice A0 l0.length c0, .slice A1 l1.length c1] w fun e w' => ∃ v0_ : Value, e = .returned (v0_) ∧ Kd.R (Kd.int .i64) 3 w' w.heap.size (fun _ => True) v0_ r ∧ Below w.heap.size w w' := by
 have HR0 := A0_ hr0; have HC0 := A0_ hc0; clear hr0 hc0; have HR1 := A0_ hr1; have HC1 := A0_ hc1; clear hr1 hc1
 have HB := A0_ (Below.refl w.heap.size w)
 have H : (if 0 ≤ (l0.length : Int) then (if ((l0.length : Int) : Int).toNat ≤ 35184372088832 then (impl_mul.l0 k l1 (List.replicate ((l0.length : Int) : Int).toNat 0) l0 (l0.length : Int) 0) else (none)) else (none)) = some r := h
 clear h
 by_cases c3 : 0 ≤ (l0.length : Int)
 ·rw [if_pos c3] at H
  have c3b0 := eq_true c3; have c3b1 := dT c3; clear c3
  by_cases c4 : ((l0.length : Int) : Int).toNat ≤ 35184372088832
  ·rw [if_pos c4] at H
   have c4b0 := eq_true c4; have c4b1 := dT c4; clear c4
   obtain ⟨y457, hy457⟩ : ∃ y_ : List Int, y_ = (List.replicate ((l0.length : Int) : Int).toNat 0) := ⟨_, rfl⟩
   replace H : (impl_mul.l0 k l1 y457 l0 (l0.length : Int) 0) = some r := zH hy457 H
   have Ny457 := A0_ hy457; clear hy457; have H' := A0_ H; clear H
   go_enter Try.func69, Try.ntmps69
   go_wp2_with (first | ((with_reducible refine gD (N := 10) rfl ?_); refine Kd.R_make (Kd.int .i64) _ 3 rfl (N := 10) rfl 23 _ _ rfl (l0.length : Int) rfl rfl Try.underlying23 (.int .i64 0) 8 info3 rfl (by decide) (by omega) 0 (ok := fun _ => True) (okp := fun _ => True) rfl (fun _ hk => hk) trivial (zd) (Nat.le_trans (Nat.mul_le_mul_right _ (zd : (l0.length : Int).toNat ≤ 35184372088832)) (by omega)) (Below.refl _ _) (Nat.le_refl _) ?_; intro v458 w5 ho6 hb hg_ hnew_; clear hg_ hnew_; (first | rw [← Ny457.out] at ho6 | (simp only [Int.reduceToNat] at ho6; rw [← Ny457.out] at ho6)); have HO459 := A0_ (rL ho6 (bZ (zB_ HB))); replace HB := zB HB hb; clear hb ho6))
   go_loopg [13] k (fun kq v13 w' => ∃ (x5_1 : List Int) (x13_1 : Int), v13 = .int .i64 x13_1 ∧ Aside0 (impl_mul.l0 kq l1 x5_1 l0 (l0.length : Int) x13_1 = some r) ∧ Aside0 (kq ≤ k) ∧ Aside0 (Kd.R (Kd.int .i64) 3 w' w.heap.size (fun _ => True) v458 x5_1) ∧ Aside0 (Below w.heap.size w w'))
   case atStart => exact ⟨(y457), (0), zt, H', ⟨Nat.le_refl _⟩, ⟨zR_ HO459⟩, ⟨zB_ HB⟩⟩
   case round =>
    clear H'; (try clear c1); (try clear p2); (try clear c3); (try clear c3b0); (try clear c3b1); (try clear c4); (try clear c4b0); (try clear c4b1); (try clear c6); obtain ⟨x5_1, x13_1, rfl, HA, HK1, HO_5, HB⟩ := hrel
    cases gk with
    | zero => exact absurd HA.out (by simp [impl_mul.l0])
    | succ k1 =>
     have H := HA.out; clear HA; simp only [impl_mul.l0] at H
     by_cases c7 : x13_1 < (l0.length : Int)
     ·rw [if_pos c7] at H
      have c7b0 := dT c7; clear c7
      by_cases c8 : 0 ≤ x13_1
      ·rw [if_pos c8] at H
       have c8b0 := dT c8; clear c8
       by_cases c9 : x13_1 < (l0.length : Int)
       ·rw [if_pos c9] at H
        have c9b0 := dT c9; clear c9
        by_cases c10 : 0 ≤ (rd l0 x13_1)
        ·rw [if_pos c10] at H
         have c10b0 := dT c10; clear c10
         by_cases c11 : (rd l0 x13_1) < (l1.length : Int)
         ·rw [if_pos c11] at H
          have c11b0 := dT c11; clear c11
          by_cases c12 : x13_1 < (x5_1.length : Int)
          ·rw [if_pos c12] at H
           have c12b0 := dT c12; clear c12
           obtain ⟨y462, hy462⟩ : ∃ y_ : List Int, y_ = (x5_1.set (x13_1 : Int).toNat (rd l1 (rd l0 x13_1))) := ⟨_, rfl⟩
           replace H : (impl_mul.l0 k1 l1 y462 l0 (l0.length : Int) (wrap64 (x13_1 + 1))) = some r := zH hy462 H
           have Ny462 := A0_ hy462; clear hy462; have H' := A0_ H; clear H
           have p460 : 0 ≤ (x13_1 : Int) := zd
           have q460 : x13_1 < (l0.length : Int) := zd
           obtain ⟨ad460, e460, hx460_0⟩ := tI HR0.out x13_1 p460 q460
           cases e460
           try replace hx460_0 := (HB.out.cell (wL w _ hx460_0)).trans hx460_0
           replace p460 := eq_true p460; replace q460 := eq_true q460
           have p461 : 0 ≤ ((rd l0 x13_1) : Int) := zd
           have q461 : (rd l0 x13_1) < (l1.length : Int) := zd
           obtain ⟨ad461, e461, hx461_0⟩ := tI HR1.out (rd l0 x13_1) p461 q461
           cases e461
           try replace hx461_0 := (HB.out.cell (wL w _ hx461_0)).trans hx461_0
           replace p461 := eq_true p461; replace q461 := eq_true q461
           have p13 : 0 ≤ (x13_1 : Int) := zd
           have q13 : (x13_1 : Int) < ((x5_1.length : Int) : Int) := zd
           obtain ⟨go13, co13, eo13, gb13, gl13, cl13, HG13⟩ := Kd.R_form HO_5.out (by omega)
           (first | cases eo13 | (injection eo13 with ea_ en_ ec_; (first | subst ea_ | (injection ea_ with ea_; subst ea_)); subst ec_; clear en_))
           have GB13 := A0_ gb13; have GG13 := A0_ HG13; clear gb13 gl13 HG13
           obtain ⟨hx13_0, hf13_0⟩ := Kd.R_celln 0 HO_5.out (x13_1 : Int) p13 q13
           replace p13 := eq_true p13; replace q13 := eq_true q13
           have HP14 := Kd.R_putg HO_5.out (x13_1 : Int) (rd l1 (rd l0 x13_1))
           go_wp2_with (first | ((with_reducible refine gS (t := 3) (p := 24) rfl ?_); refine store_event (t := 3) (p := 24) (v := ?vo_w15) (w1 := (wr.setCell ⟨go13, (x13_1 : Int).toNat, none⟩ (.int .i64 (rd l1 (rd l0 x13_1))))) ?hg ?ho ?hn ?hr ?_; (case ho => rfl); (case hg => rfl); (case hn => rfl); (case hr => first | (go_simp; done) | (go_simp; rfl)); intro w15 hw; have hg : wr.grownBy w15 (some go13) := (by rw [hw]; exact HP14.2); have hp_ : Kd.R (Kd.int .i64) 3 w15 w.heap.size (fun _ => True) (.slice (some ⟨go13, 0, none⟩) x5_1.length co13) y462 := (by rw [hw, Ny462.out]; exact HP14.1); clear HP14; replace HO_5 := A0_ (hp_); replace HB := A0_ ((by rw [hw]; exact bS (HB.out) GB13.out : Below w.heap.size w w15)); clear hg hw hp_))
           go_roundg k1
           case measure => have := HK1.out; omega
           case rel => exact ⟨(y462), (wrap64 (x13_1 + 1)), zt, H', ⟨by have := HK1.out; omega⟩, ⟨zR_ HO_5⟩, ⟨zB_ HB⟩⟩
          rw [if_neg c12] at H
          exact absurd H (by simp)
         rw [if_neg c11] at H
         exact absurd H (by simp)
        rw [if_neg c10] at H
        exact absurd H (by simp)
       rw [if_neg c9] at H
       exact absurd H (by simp)
      rw [if_neg c8] at H
      exact absurd H (by simp)
     rw [if_neg c7] at H; have c7b0 := dF c7; clear c7; obtain rfl := sI H
     go_wp2
     go_ret
     exact ⟨_, by first | rfl | (simp [*] <;> rfl), zR_ HO_5, zB_ HB⟩
  rw [if_neg c4] at H
  exact absurd H (by simp)
 rw [if_neg c3] at H
 exact absurd H (by simp)

/-! ### slices_Clone_int_int: function 106 -/
def slices_Clone_int_int.f (l0 : List Int) : Option (List Int) := if l0.length ≤ 1048576 then some l0 else none
set_option maxHeartbeats 8000000 in
set_option maxRecDepth 100000 in
theorem slices_Clone_int_int.calls (A0 : Option Addr) (c0 : Nat) (l0 : List Int) (r : List Int) (w : World) (hr0 : Kd.C (Kd.int .i64) w A0 l0.length l0) (hc0 : l0.length ≤ c0) (h : slices_Clone_int_int.f l0 = some r) :
    Calls Try.prog 106 #[.slice A0 l0.length c0] w fun e w' => ∃ v0_ : Value, e = .returned (v0_) ∧ Kd.R (Kd.int .i64) 3 w' w.heap.size (fun _ => True) v0_ r ∧ Below w.heap.size w w' := by
  unfold slices_Clone_int_int.f at h
  by_cases hl : l0.length ≤ 1048576
  · rw [if_pos hl] at h
    obtain rfl := sI h; clear h; have HR0 := A0_ hr0; have HC0 := A0_ hc0; have HL := A0_ hl; clear hr0 hc0 hl
    have HB := A0_ (Below.refl w.heap.size w)
    have he : ∀ w : World, (Go.binOp .eql 23 (.slice A0 l0.length c0) (.slice none 0 0)).run Try.prog w = .ok (.bool A0.isNone) w := fun w => by cases A0 <;> kernel_rfl
    cases A0 with
    | none =>
      have hz : l0 = [] := by
        rcases Nat.eq_zero_or_pos l0.length with z | z
        · exact List.length_eq_zero_iff.1 z
        obtain ⟨ad, e, _⟩ := HR0.out.2.2 z
        cases e
      have HZ := A0_ hz; clear hz
      go_enter Try.func106, Try.ntmps106
      go_wp2
      go_ret
      exact ⟨_, rfl, by rw [HZ.out]; exact Kd.R_nil _ _ _ _ _, HB.out⟩
    | some ad =>
      obtain ⟨y233, hy⟩ : ∃ y_ : List Int, y_ = ([] : List Int) := ⟨_, rfl⟩
      have Ny233 := A0_ hy; clear hy
      have Ny236 := A0_ (show l0 = y233 ++ l0 by rw [Ny233.out]; rfl)
      have LMc2 := A0_ (show y233.length + l0.length < 17592186044416 by rw [Ny233.out]; have := HL.out; simp; omega)
      go_enter Try.func106, Try.ntmps106
      go_wp2_with (first | ((with_reducible refine gD (N := 5) rfl ?_); refine Kd.R_lit (Kd.int .i64) _ 3 ?hg (N := 5) ?hd (xs := ([] : List Int)) (inner := []) (ok := fun _ => True) (okp := fun _ => True) ?hr ?hp (fun _ hk => hk) trivial (Below.refl _ _) (Nat.le_refl _) (by simp) ?_; (case hd => rfl); (case hg => rfl); (case hr => first | (go_simp; done) | (go_simp; rfl)); (case hp => exact (Reps.none _ _)); intro v234 w3 ho4 hb hg_ hnew_; clear hg_ hnew_; (first | rw [← Ny233.out] at ho4 | (simp only [Int.reduceToNat] at ho4; rw [← Ny233.out] at ho4)); have HO235 := A0_ (rL ho4 (bZ (zB_ HB))); replace HB := zB HB hb; clear hb ho4) | ((with_reducible refine gB (b := .append) (xs := #[.tmp 5, .tmp 6]) rfl ?_); at_builtin; refine Kd.R_append_rows (Kd.int .i64) (w0 := w) w.heap.size rfl (.tmp 5) (.tmp 6) 23 3 (.int .i64 0) 8 rfl Try.underlying23 info3 rfl (by decide) (by omega) v234 y233 l0 _ _ _ (fun _ => True) (fun _ => False) rfl rfl ?aO ?aR (fun _ _ h => h) (fun _ h => h.elim) ?aF ?aB ?aS ?aL ?_; (case aR => exact zC HR0 HB); (case aB => exact (zB_ HB)); (case aF => exact (fun _ _ => trivial)); (case aO => exact (zR_ HO235)); (case aS => exact (bZ (zB_ HB))); (case aL => have := LMc2.out; omega); intro v237 w5 ho hb hg hat; rw [← Ny236.out] at ho; replace HB := A0_ (hb); have HO238 := A0_ (ho); clear HO235 ho hb hg hat))
      go_ret
      exact ⟨_, rfl, zR_ HO238, (zB_ HB)⟩
  rw [if_neg hl] at h; cases h


end Go.Proofs.Ytmegggomhjgehaa.PFnCoverWhole
