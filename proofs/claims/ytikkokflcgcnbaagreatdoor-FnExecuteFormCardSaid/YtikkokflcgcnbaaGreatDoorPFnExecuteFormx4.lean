-- Made by a program of this session (wip/tools) out of the loaded program; not trusted: Lean checks it.
import Derived.Test.YtikkokflcgcnbaaGreatDoorPFnExecuteFormx0
-- packed
namespace Go.Proofs.YtikkokflcgcnbaaGreatDoor.PFnExecuteForm
open Go.RowKit Go.Proofs.YtikkokflcgcnbaaGreatDoorW.PrintWords Go.Proofs.YtikkokflcgcnbaaGreatDoorW.PrintLast Go.Proofs.YtikkokflcgcnbaaGreatDoorW.PrintMore
attribute [local go_sem] max2_int min2_int max_two min_two max_three min_three max_four min_four   -- for this text's walks alone
set_option linter.unusedVariables false
set_option linter.unusedSimpArgs false

/-! ### impl_namesFrom: function 54 -/
mutual
def impl_namesFrom.l0 : Nat → Int → List Int → Int → Int → List Int → List Int → Option (List Int)
  | 0, _, _, _, _, _, _ => none
  | k + 1, x1, x5, x16, x17, x169000, x169001 => if x17 < x16 then (if 0 ≤ x17 then (if x17 < (x5.length : Int) then (impl_namesFrom.l0 k x1 (x5.set (x17 : Int).toNat (-1)) x16 (wrap64 (x17 + 1)) x169000 x169001) else (none)) else (none)) else (if 0 ≤ x1 then (if x1 < (x5.length : Int) then (impl_namesFrom.l1 k (x5.set (x1 : Int).toNat 0) (([x1] : List Int)) 0 x169000 x169001) else (none)) else (none))
def impl_namesFrom.l1 : Nat → List Int → List Int → Int → List Int → List Int → Option (List Int)
  | 0, _, _, _, _, _ => none
  | k + 1, x5, x7, x8, x169000, x169001 => if x8 < (x7.length : Int) then (if 0 ≤ x8 then (if 0 ≤ (rd x7 x8) then (if (rd x7 x8) < (x169000.length : Int) then (if (rd x7 x8) < (x169001.length : Int) then ((some (([rd x169000 (rd x7 x8), rd x169001 (rd x7 x8)] : List Int) : List Int)).bind fun y181 => (impl_namesFrom.l2 k x5 x7 x8 y181 (y181.length : Int) 0 x169000 x169001)) else (none)) else (none)) else (none)) else (none)) else (some x5)
def impl_namesFrom.l2 : Nat → List Int → List Int → Int → List Int → Int → Int → List Int → List Int → Option (List Int)
  | 0, _, _, _, _, _, _, _, _ => none
  | k + 1, x5, x7, x8, x51, x52, x53, x169000, x169001 => if x53 < x52 then (if 0 ≤ x53 then (if x53 < (x51.length : Int) then (if 0 ≤ (rd x51 x53) then (if (rd x51 x53) < (x5.length : Int) then (if (rd x5 (rd x51 x53)) < 0 then (if x7.length < 17592186044416 then (impl_namesFrom.l2 k (x5.set ((rd x51 x53) : Int).toNat (x7.length : Int)) (x7 ++ [rd x51 x53]) x8 x51 x52 (wrap64 (x53 + 1)) x169000 x169001) else (none)) else (impl_namesFrom.l2 k x5 x7 x8 x51 x52 (wrap64 (x53 + 1)) x169000 x169001)) else (none)) else (none)) else (none)) else (none)) else (impl_namesFrom.l1 k x5 x7 (wrap64 (x8 + 1)) x169000 x169001)
end
def impl_namesFrom.f (k : Nat) (l0_0 : List Int) (l0_1 : List Int) (a1 : Int) : Option (List Int) := if 0 ≤ (l0_0.length : Int) then (if ((l0_0.length : Int) : Int).toNat ≤ 35184372088832 then ((some (List.replicate ((l0_0.length : Int) : Int).toNat 0 : List Int)).bind fun y169 => (impl_namesFrom.l0 k a1 y169 (y169.length : Int) 0 l0_0 l0_1)) else (none)) else (none)
def impl_namesFrom.T12 : Bool × List (List Nat × List Nat) := (true, [([], []), ([0], [0]), ([], []), ([], []), ([2, 3], [2, 3]), ([4], [4]), ([1, 5], [1, 5]), ([6], [6]), ([], []), ([8], [8]), ([], []), ([], []), ([10, 11], [10, 11]), ([12], [12]), ([9, 13], [9, 13]), ([14], [14]), ([7, 15], [7, 15]), ([16], [16]), ([], [])])
def impl_namesFrom.B12 : List Nat := [0, 1, 0, 0, 12, 28, 63, 127, 0, 256, 0, 0, 3072, 7168, 16128, 32512, 65535, 131071, 0]
theorem impl_namesFrom.tab12 : rtab .any (opsOf Tryz.f54 12) = impl_namesFrom.T12 := by kernel_rfl
theorem impl_namesFrom.bits12 : waitsOk impl_namesFrom.T12.2 impl_namesFrom.B12 = true := by kernel_rfl
set_option maxHeartbeats 8000000 in
set_option maxRecDepth 100000 in
theorem impl_namesFrom.calls (k : Nat) (A0_0 : Option Addr) (c0_0 : Nat) (l0_0 : List Int) (A0_1 : Option Addr) (c0_1 : Nat) (l0_1 : List Int) (a1 : Int) (r : List Int) (w : World) (hr0_0 : Kd.C (Kd.int .i64) w A0_0 l0_0.length l0_0) (hc0_0 : l0_0.length ≤ c0_0) (hr0_1 : Kd.C (Kd.int .i64) w A0_1 l0_1.length l0_1) (hc0_1 : l0_1.length ≤ c0_1) (h : impl_namesFrom.f k l0_0 l0_1 a1 = some r) :
    Calls Tryz.prog 54 #[.agg #[.slice A0_0 l0_0.length c0_0, .slice A0_1 l0_1.length c0_1], .int .i64 a1] w fun e w' => ∃ v0_ : Value, e = .returned (v0_) ∧ Kd.R (Kd.int .i64) 3 w' w.heap.size (fun _ => True) v0_ r ∧ Below w.heap.size w w' := by
 have hu25 := Tryz.underlying25; have HR0_0 := A0_ hr0_0; have HC0_0 := A0_ hc0_0; clear hr0_0 hc0_0; have HR0_1 := A0_ hr0_1; have HC0_1 := A0_ hc0_1; clear hr0_1 hc0_1
 have HB := A0_ (Below.refl w.heap.size w)
 have H : (if 0 ≤ (l0_0.length : Int) then (if ((l0_0.length : Int) : Int).toNat ≤ 35184372088832 then ((some (List.replicate ((l0_0.length : Int) : Int).toNat 0 : List Int)).bind fun y169 => (impl_namesFrom.l0 k a1 y169 (y169.length : Int) 0 l0_0 l0_1)) else (none)) else (none)) = some r := h
 clear h
 by_cases c3 : 0 ≤ (l0_0.length : Int)
 ·rw [if_pos c3] at H
  have c3b0 := eq_true c3; have c3b1 := dT c3; clear c3
  by_cases c4 : ((l0_0.length : Int) : Int).toNat ≤ 35184372088832
  ·rw [if_pos c4] at H
   have c4b0 := eq_true c4; have c4b1 := dT c4; clear c4
   obtain ⟨y169, hy169⟩ : ∃ y_ : List Int, y_ = (List.replicate ((l0_0.length : Int) : Int).toNat 0) := ⟨_, rfl⟩
   replace H : (impl_namesFrom.l0 k a1 y169 (y169.length : Int) 0 l0_0 l0_1) = some r := zH hy169 H
   have Ny169 := A0_ hy169; clear hy169; have H' := A0_ H; clear H
   go_enter Tryz.func54, Tryz.ntmps54
   go_wp2_with (first | ((with_reducible refine gD (N := 2) rfl ?_); refine zX (N := 2) (cs := #[.slice A0_0 l0_0.length c0_0, .slice A0_1 l0_1.length c0_1]) (t := 25) ?_; intro gb168 hg w5 hbox hb; have BK168 := A0_ (hbox); have GW168 := zG hg HB; have GE168 := zG hg HB; replace HB := zB HB hb; clear hb hbox hg; have hcz6_0 := zc0 BK168; have hcz6_1 := zc1 BK168; have hfz6_0 := kF BK168.out 0; have hfz6_1 := kF BK168.out 1) | ((with_reducible refine gD (N := 14) rfl ?_); refine Kd.R_make (Kd.int .i64) _ 3 rfl (N := 14) rfl 23 _ _ rfl (l0_0.length : Int) rfl rfl Tryz.underlying23 (.int .i64 0) 8 info3 rfl (by decide) (by omega) 0 (ok := fun _ => True) (okp := fun _ => True) rfl (fun _ hk => hk) trivial (zd) (Nat.le_trans (Nat.mul_le_mul_right _ (zd : (l0_0.length : Int).toNat ≤ 35184372088832)) (by omega)) (Below.refl _ _) (Nat.le_refl _) ?_; intro v170 w7 ho8 hb hg_ hnew_; clear hg_ hnew_; (first | rw [← Ny169.out] at ho8 | (simp only [Int.reduceToNat] at ho8; rw [← Ny169.out] at ho8)); have HO171 := A0_ (rL ho8 (bZ (zB_ HB))); replace BK168 := zK BK168 hb; replace HB := zB HB hb; clear hb ho8; obtain ⟨Ao9, co9, eo9⟩ := rS HO171.out; subst eo9))
   go_loopg [17] k (fun kq v17 w' => ∃ (x5_1 : List Int) (x17_1 : Int), v17 = .int .i64 x17_1 ∧ Aside0 (impl_namesFrom.l0 kq a1 x5_1 (y169.length : Int) x17_1 l0_0 l0_1 = some r) ∧ Aside0 (kq ≤ k) ∧ Aside0 (Kd.R (Kd.int .i64) 3 w' w.heap.size (fun _ => True) (.slice Ao9 y169.length co9) x5_1) ∧ Aside0 (w'.heap[gb168]? = some (.cells #[(.slice A0_0 l0_0.length c0_0), (.slice A0_1 l0_1.length c0_1)] 25 (0, 0))) ∧ Aside0 (Below w.heap.size w w'))
   case atStart => exact ⟨(y169), (0), zt, H', ⟨Nat.le_refl _⟩, ⟨zR_ HO171⟩, ⟨zK_ BK168⟩, ⟨zB_ HB⟩⟩
   case round =>
    clear H'; (try clear p2); (try clear c3); (try clear c3b0); (try clear c3b1); (try clear c4); (try clear c4b0); (try clear c4b1); (try clear c5); (try clear hcz6_0); (try clear hcz6_1); (try clear hfz6_0); (try clear hfz6_1); obtain ⟨x5_1, x17_1, rfl, HA, HK1, HO_5, BK168, HB⟩ := hrel; have hl5_1 := (rR HO_5.out).1; rw [hl5_1] at HO_5; (try simp only [hl5_1]); (try simp only [hl5_1] at BK168)
    cases gk with
    | zero => exact absurd HA.out (by simp [impl_namesFrom.l0])
    | succ k1 =>
     have H := HA.out; clear HA; simp only [impl_namesFrom.l0] at H
     by_cases c10 : x17_1 < (y169.length : Int)
     ·rw [if_pos c10] at H
      have c10b0 := dT c10; (try simp only [hl5_1] at c10b0); clear c10
      by_cases c11 : 0 ≤ x17_1
      ·rw [if_pos c11] at H
       have c11b0 := dT c11; clear c11
       by_cases c12 : x17_1 < (x5_1.length : Int)
       ·rw [if_pos c12] at H
        have c12b0 := dT c12; (try simp only [hl5_1] at c12b0); clear c12
        obtain ⟨y172, hy172⟩ : ∃ y_ : List Int, y_ = (x5_1.set (x17_1 : Int).toNat (-1)) := ⟨_, rfl⟩
        replace H : (impl_namesFrom.l0 k1 a1 y172 (y169.length : Int) (wrap64 (x17_1 + 1)) l0_0 l0_1) = some r := zH hy172 H
        have Ny172 := A0_ hy172; clear hy172; have H' := A0_ H; clear H
        have p13 : 0 ≤ (x17_1 : Int) := zd
        have q13 : (x17_1 : Int) < ((x5_1.length : Int) : Int) := zd
        obtain ⟨go13, co13, eo13, gb13, gl13, cl13, HG13⟩ := Kd.R_form HO_5.out (by omega)
        (first | cases eo13 | (injection eo13 with ea_ en_ ec_; (first | subst ea_ | (injection ea_ with ea_; subst ea_)); subst ec_; clear en_))
        have GB13 := A0_ gb13; have GG13 := A0_ HG13; clear gb13 gl13 HG13
        obtain ⟨hx13_0, hf13_0⟩ := Kd.R_celln 0 HO_5.out (x17_1 : Int) p13 q13
        replace p13 := eq_true p13; replace q13 := eq_true q13
        have HP14 := Kd.R_putg HO_5.out (x17_1 : Int) (-1)
        go_wp2_with (first | ((with_reducible refine gS (t := 3) (p := 22) rfl ?_); refine store_event (t := 3) (p := 22) (v := ?vo_w15) (w1 := (wr.setCell ⟨go13, (x17_1 : Int).toNat, none⟩ (.int .i64 (-1)))) ?hg ?ho ?hn ?hr ?_; (case ho => rfl); (case hg => rfl); (case hn => rfl); (case hr => first | (go_simp; done) | (go_simp; rfl)); intro w15 hw; have hg : wr.grownBy w15 (some go13) := (by rw [hw]; exact HP14.2); have hp_ : Kd.R (Kd.int .i64) 3 w15 w.heap.size (fun _ => True) (.slice (some ⟨go13, 0, none⟩) x5_1.length co9) y172 := (by rw [hw, Ny172.out]; exact HP14.1); clear HP14; replace BK168 := A0_ (blk_grown (g := gb168) (o := .cells #[.slice A0_0 l0_0.length c0_0, .slice A0_1 l0_1.length c0_1] 25 (0, 0)) (zK_ BK168) hg (Kd.R_ne HO_5.out BK168.out (by decide))); replace HO_5 := A0_ (hp_); replace HB := A0_ ((by rw [hw]; exact bS (HB.out) GB13.out : Below w.heap.size w w15)); clear hg hw hp_))
        (try simp only [← hl5_1])
        go_roundg k1
        case measure => have := HK1.out; omega
        case rel => exact ⟨(y172), (wrap64 (x17_1 + 1)), zt, H', ⟨by have := HK1.out; omega⟩, ⟨by (try simp only [hl5_1]); (with_reducible repeat (first | apply rA | apply rN | apply rD)); exact HO_5.out⟩, ⟨by (try simp only [hl5_1]); (with_reducible repeat (first | refine kN ?_ _ | refine kD ?_ | refine kA ?_ _)); exact BK168.out⟩, ⟨zB_ HB⟩⟩
       rw [if_neg c12] at H
       exact absurd H (by simp)
      rw [if_neg c11] at H
      exact absurd H (by simp)
     rw [if_neg c10] at H; have c10b0 := dF c10; (try simp only [hl5_1] at c10b0); clear c10
     by_cases c16 : 0 ≤ a1
     ·rw [if_pos c16] at H
      have c16b0 := dT c16; clear c16
      by_cases c17 : a1 < (x5_1.length : Int)
      ·rw [if_pos c17] at H
       have c17b0 := dT c17; (try simp only [hl5_1] at c17b0); clear c17
       obtain ⟨y173, hy173⟩ : ∃ y_ : List Int, y_ = (x5_1.set (a1 : Int).toNat 0) := ⟨_, rfl⟩
       replace H : (impl_namesFrom.l1 k1 y173 (([a1] : List Int)) 0 l0_0 l0_1) = some r := zH hy173 H
       have Ny173 := A0_ hy173; clear hy173
       obtain ⟨y174, hy174⟩ : ∃ y_ : List Int, y_ = (([a1] : List Int)) := ⟨_, rfl⟩
       replace H : (impl_namesFrom.l1 k1 y173 y174 0 l0_0 l0_1) = some r := zH hy174 H
       have Ny174 := A0_ hy174; clear hy174; have H' := A0_ H; clear H
       have p18 : 0 ≤ (a1 : Int) := zd
       have q18 : (a1 : Int) < ((x5_1.length : Int) : Int) := zd
       obtain ⟨go18, co18, eo18, gb18, gl18, cl18, HG18⟩ := Kd.R_form HO_5.out (by omega)
       (first | cases eo18 | (injection eo18 with ea_ en_ ec_; (first | subst ea_ | (injection ea_ with ea_; subst ea_)); subst ec_; clear en_))
       have GB18 := A0_ gb18; have GG18 := A0_ HG18; clear gb18 gl18 HG18
       obtain ⟨hx18_0, hf18_0⟩ := Kd.R_celln 0 HO_5.out (a1 : Int) p18 q18
       replace p18 := eq_true p18; replace q18 := eq_true q18
       have HP19 := Kd.R_putg HO_5.out (a1 : Int) 0
       go_wp2_with (first | ((with_reducible refine gS (t := 3) (p := 26) rfl ?_); refine store_event (t := 3) (p := 26) (v := ?vo_w20) (w1 := (wr.setCell ⟨go18, (a1 : Int).toNat, none⟩ (.int .i64 0))) ?hg ?ho ?hn ?hr ?_; (case ho => rfl); (case hg => rfl); (case hn => rfl); (case hr => first | (go_simp; done) | (go_simp; rfl)); intro w20 hw; have hg : wr.grownBy w20 (some go18) := (by rw [hw]; exact HP19.2); have hp_ : Kd.R (Kd.int .i64) 3 w20 w.heap.size (fun _ => True) (.slice (some ⟨go18, 0, none⟩) x5_1.length co9) y173 := (by rw [hw, Ny173.out]; exact HP19.1); clear HP19; replace BK168 := A0_ (blk_grown (g := gb168) (o := .cells #[.slice A0_0 l0_0.length c0_0, .slice A0_1 l0_1.length c0_1] 25 (0, 0)) (zK_ BK168) hg (Kd.R_ne HO_5.out BK168.out (by decide))); replace HO_5 := A0_ (hp_); replace HB := A0_ ((by rw [hw]; exact bS (HB.out) GB18.out : Below w.heap.size w w20)); clear hg hw hp_) | ((with_reducible refine gD (N := 28) rfl ?_); refine Kd.R_lit (Kd.int .i64) _ 3 ?hg (N := 28) ?hd (xs := ([a1] : List Int)) (inner := [.int .i64 a1]) (ok := fun _ => True) (okp := fun _ => True) ?hr ?hp (fun _ hk => hk) trivial (Below.refl _ _) (Nat.le_refl _) (by simp) ?_; (case hd => rfl); (case hg => rfl); (case hr => first | (go_simp; done) | (go_simp; rfl)); (case hp => exact (Reps.one (show Kd.M (Kd.int .i64) _ _ _ a1 [.int .i64 a1] from rfl) (Reps.none _ _))); intro v175 w21 ho22 hb hg_ hnew_; clear hg_ hnew_; (first | rw [← Ny174.out] at ho22 | (simp only [Int.reduceToNat] at ho22; rw [← Ny174.out] at ho22)); have HO176 := A0_ (rL (Kd.R_new' ho22 (rX (zR_ HO_5))) (bZ (zB_ HB))); replace HO_5 := A0_ (Kd.R_elder' (zR_ HO_5) (Kd.R_base ho22) hb); replace BK168 := zK BK168 hb; replace HB := zB HB hb; clear hb ho22))
       go_loopg [7, 8] k1 (fun kq v7 v8 w' => ∃ (x5_2 : List Int) (x7_2 : List Int) (x8_2 : Int), v8 = .int .i64 x8_2 ∧ Aside0 (impl_namesFrom.l1 kq x5_2 x7_2 x8_2 l0_0 l0_1 = some r) ∧ Aside0 (kq ≤ k1) ∧ Aside0 (Kd.R (Kd.int .i64) 3 w' w.heap.size (fun k_ => some k_ ≠ (v7 : Value).ownBlock) (.slice (some ⟨go18, 0, none⟩) x5_1.length co9) x5_2) ∧ Aside0 (Kd.R (Kd.int .i64) 3 w' w.heap.size (fun k_ => some k_ ≠ ((.slice (some ⟨go18, 0, none⟩) x5_1.length co9) : Value).ownBlock) v7 x7_2) ∧ Aside0 (w'.heap[gb168]? = some (.cells #[(.slice A0_0 l0_0.length c0_0), (.slice A0_1 l0_1.length c0_1)] 25 (0, 0))) ∧ Aside0 (Below w.heap.size w w'))
       case atStart => exact ⟨(y173), (y174), (0), zt, H', ⟨Nat.le_refl _⟩, ⟨by (try simp only [hl5_1]); (with_reducible repeat (first | apply rA | apply rN | apply rD)); exact rM HO_5.out (fun _ hk => hk.2)⟩, ⟨by (try simp only [hl5_1]); (with_reducible repeat (first | apply rA | apply rN | apply rD)); exact rM HO176.out (fun _ hk => hk.2)⟩, ⟨by (try simp only [hl5_1]); (with_reducible repeat (first | refine kN ?_ _ | refine kD ?_ | refine kA ?_ _)); exact BK168.out⟩, ⟨zB_ HB⟩⟩
       case round =>
        clear H'; (try clear c1); (try clear p1); (try clear q1); (try clear hx1); (try clear p2); (try clear c3); (try clear c3b0); (try clear c3b1); (try clear c4); (try clear c4b0); (try clear c4b1); (try clear c5); (try clear p6); (try clear c10); (try clear c10b0); (try clear c11); (try clear c11b0); (try clear c12); (try clear c12b0); (try clear p13); (try clear q13); (try clear hx13); (try clear hf13); (try clear c16); (try clear c16b0); (try clear c17); (try clear c17b0); (try clear p18); (try clear q18); (try clear hx18); (try clear hf18); (try clear hcz6_0); (try clear hcz6_1); (try clear hfz6_0); (try clear hfz6_1); (try clear hx13_0); (try clear hx18_0); (try clear p13); (try clear p18); (try clear p2); (try clear q13); (try clear q18); obtain ⟨x5_2, x7_2, x8_2, rfl, HA, HK2, HO_5, HO_7, BK168, HB⟩ := hrel; have hl5_2 := (rR HO_5.out).1; rw [hl5_2] at HO_5; (try simp only [hl5_2]); (try simp only [hl5_2] at BK168); (try simp only [hl5_2] at HO_7)
        cases gk with
        | zero => exact absurd HA.out (by simp [impl_namesFrom.l1])
        | succ k2 =>
         have H := HA.out; clear HA; simp only [impl_namesFrom.l1] at H
         by_cases c23 : x8_2 < (x7_2.length : Int)
         ·rw [if_pos c23] at H
          have c23b0 := dT c23; (try simp only [hl5_1] at c23b0); (try simp only [hl5_2] at c23b0); clear c23
          by_cases c24 : 0 ≤ x8_2
          ·rw [if_pos c24] at H
           have c24b0 := dT c24; clear c24
           by_cases c25 : 0 ≤ (rd x7_2 x8_2)
           ·rw [if_pos c25] at H
            have c25b0 := dT c25; clear c25
            by_cases c26 : (rd x7_2 x8_2) < (l0_0.length : Int)
            ·rw [if_pos c26] at H
             have c26b0 := dT c26; (try simp only [hl5_1] at c26b0); (try simp only [hl5_2] at c26b0); clear c26
             by_cases c27 : (rd x7_2 x8_2) < (l0_1.length : Int)
             ·rw [if_pos c27] at H
              have c27b0 := dT c27; (try simp only [hl5_1] at c27b0); (try simp only [hl5_2] at c27b0); clear c27
              obtain ⟨y181, hy181⟩ : ∃ y_ : List Int, y_ = (([rd l0_0 (rd x7_2 x8_2), rd l0_1 (rd x7_2 x8_2)] : List Int)) := ⟨_, rfl⟩
              replace H : (impl_namesFrom.l2 k2 x5_2 x7_2 x8_2 y181 (y181.length : Int) 0 l0_0 l0_1) = some r := zH hy181 H
              have Ny181 := A0_ hy181; clear hy181; have H' := A0_ H; clear H; obtain ⟨Ao28, co28, eo28⟩ := rS HO_7.out; subst eo28
              try go_wp2
              replace HO_5 := A0_ (rD HO_5.out)
              replace HO_7 := A0_ (rD HO_7.out)
              replace BK168 := A0_ (kD BK168.out)
              replace HB := A0_ (bD HB.out)
              have p177 : 0 ≤ (x8_2 : Int) := zd
              have q177 : x8_2 < (x7_2.length : Int) := zd
              obtain ⟨ad177, e177, hx177_0⟩ := tI (rR HO_7.out).2.2 x8_2 p177 q177
              cases e177
              replace p177 := eq_true p177; replace q177 := eq_true q177
              have p178 : 0 ≤ ((rd x7_2 x8_2) : Int) := zd
              have q178 : (rd x7_2 x8_2) < (l0_0.length : Int) := zd
              obtain ⟨ad178, e178, hx178_0⟩ := tI HR0_0.out (rd x7_2 x8_2) p178 q178
              have hw178_0 := hx178_0
              cases e178
              try replace hx178_0 := (HB.out.cell (wL w _ hx178_0)).trans hx178_0
              replace p178 := eq_true p178; replace q178 := eq_true q178
              have p179 : 0 ≤ (x8_2 : Int) := zd
              have q179 : x8_2 < (x7_2.length : Int) := zd
              obtain ⟨ad179, e179, hx179_0⟩ := tI (rR HO_7.out).2.2 x8_2 p179 q179
              obtain rfl : ad177 = ad179 := (by injection e179)
              replace p179 := eq_true p179; replace q179 := eq_true q179
              have p180 : 0 ≤ ((rd x7_2 x8_2) : Int) := zd
              have q180 : (rd x7_2 x8_2) < (l0_1.length : Int) := zd
              obtain ⟨ad180, e180, hx180_0⟩ := tI HR0_1.out (rd x7_2 x8_2) p180 q180
              have hw180_0 := hx180_0
              cases e180
              try replace hx180_0 := (HB.out.cell (wL w _ hx180_0)).trans hx180_0
              replace p180 := eq_true p180; replace q180 := eq_true q180
              refine start_ (n := 19) (S := fun w' => w'.cell? ⟨gb168, 0, none⟩ = some (.slice (some ad178) l0_0.length c0_0) ∧ w'.cell? ⟨gb168, 1, none⟩ = some (.slice (some ad180) l0_1.length c0_1) ∧ w'.cell? (ad177.add (x8_2).toNat) = some (.int .i64 (rd x7_2 x8_2)) ∧ w'.cell? (ad178.add ((rd x7_2 x8_2)).toNat) = some (.int .i64 (rd l0_0 (rd x7_2 x8_2))) ∧ w'.cell? (ad177.add (x8_2).toNat) = some (.int .i64 (rd x7_2 x8_2)) ∧ w'.cell? (ad180.add ((rd x7_2 x8_2)).toNat) = some (.int .i64 (rd l0_1 (rd x7_2 x8_2)))) (ds := []) #[false, false, false, false, false, false, false, false, false, false, false, false, false, false, false, false, false, false, false] (by kernel_rfl) rfl rfl ⟨(kC BK168.out 0).trans rfl, (kC BK168.out 1).trans rfl, hx177_0, ((HB.out.cell (wL w _ hw178_0)).trans hw178_0), hx179_0, ((HB.out.cell (wL w _ hw180_0)).trans hw180_0)⟩ (fun hHeld => ?_); refine with_tabW impl_namesFrom.tab12 impl_namesFrom.bits12 (fun HT_ HW_ => ?_)
              generalize wr.drew = w29 at HO_5 HO_7 BK168 HB hx177_0 hx178_0 hx179_0 hx180_0 hHeld ⊢
              refine zP 0 (some 35) #[true,false,false,false,false,false,false,false,false,false,false,false,false,false,false,false,false,false,false] ?_
              refine zP 2 (some 37) #[true,false,true,false,false,false,false,false,false,false,false,false,false,false,false,false,false,false,false] ?_
              refine zP 3 (some 38) #[true,false,true,true,false,false,false,false,false,false,false,false,false,false,false,false,false,false,false] ?_
              refine zP 4 (some 39) #[true,false,true,true,true,false,false,false,false,false,false,false,false,false,false,false,false,false,false] ?_
              refine zP 8 (some 43) #[true,false,true,true,true,false,false,false,true,false,false,false,false,false,false,false,false,false,false] ?_
              refine zP 10 (some 45) #[true,false,true,true,true,false,false,false,true,false,true,false,false,false,false,false,false,false,false] ?_
              refine zP 11 (some 46) #[true,false,true,true,true,false,false,false,true,false,true,true,false,false,false,false,false,false,false] ?_
              refine zP 12 (some 47) #[true,false,true,true,true,false,false,false,true,false,true,true,true,false,false,false,false,false,false] ?_
              refine zP 18 (some 53) #[true,false,true,true,true,false,false,false,true,false,true,true,true,false,false,false,false,false,true] ?_
              refine take_ (i := 1) (N := some 36) (v := ?_) (a' := ?_) #[true, true, true, true, true, false, false, false, true, false, true, true, true, false, false, false, false, false, true] rfl rfl (take_ofW HT_.out HW_.out (by kernel_rfl)) (fun _ _ _ h => h) (Or.inl ⟨by rfl, ?_⟩) hHeld ?_ ?_
              rotate_left
              ·rintro w' ⟨s0, s1, s2, s3, s4, s5⟩
               go_simp
               with_reducible rfl
              rotate_left
              ·simp only [Act.put, List.setIfInBounds_toArray, List.set_cons_zero, List.set_cons_succ, i64_w, i32_w]
               rfl
              refine take_ (i := 5) (N := some 40) (v := ?_) (a' := ?_) #[true, true, true, true, true, true, false, false, true, false, true, true, true, false, false, false, false, false, true] rfl rfl (take_ofW HT_.out HW_.out (by kernel_rfl)) (fun _ _ _ h => h) (Or.inl ⟨by rfl, ?_⟩) hHeld ?_ ?_
              rotate_left
              ·rintro w' ⟨s0, s1, s2, s3, s4, s5⟩
               go_simp
               with_reducible rfl
              rotate_left
              ·simp only [Act.put, List.setIfInBounds_toArray, List.set_cons_zero, List.set_cons_succ, i64_w, i32_w]
               rfl
              refine zP 6 (some 41) #[true,true,true,true,true,true,true,false,true,false,true,true,true,false,false,false,false,false,true] ?_
              refine take_ (i := 7) (N := some 42) (v := ?_) (a' := ?_) #[true, true, true, true, true, true, true, true, true, false, true, true, true, false, false, false, false, false, true] rfl rfl (take_ofW HT_.out HW_.out (by kernel_rfl)) (fun _ _ _ h => h) (Or.inl ⟨by rfl, ?_⟩) hHeld ?_ ?_
              rotate_left
              ·rintro w' ⟨s0, s1, s2, s3, s4, s5⟩
               go_simp
               with_reducible rfl
              rotate_left
              ·simp only [Act.put, List.setIfInBounds_toArray, List.set_cons_zero, List.set_cons_succ, i64_w, i32_w]
               rfl
              refine take_ (i := 9) (N := some 44) (v := ?_) (a' := ?_) #[true, true, true, true, true, true, true, true, true, true, true, true, true, false, false, false, false, false, true] rfl rfl (take_ofW HT_.out HW_.out (by kernel_rfl)) (fun _ _ _ h => h) (Or.inl ⟨by rfl, ?_⟩) hHeld ?_ ?_
              rotate_left
              ·rintro w' ⟨s0, s1, s2, s3, s4, s5⟩
               go_simp
               with_reducible rfl
              rotate_left
              ·simp only [Act.put, List.setIfInBounds_toArray, List.set_cons_zero, List.set_cons_succ, i64_w, i32_w]
               rfl
              refine take_ (i := 13) (N := some 48) (v := ?_) (a' := ?_) #[true, true, true, true, true, true, true, true, true, true, true, true, true, true, false, false, false, false, true] rfl rfl (take_ofW HT_.out HW_.out (by kernel_rfl)) (fun _ _ _ h => h) (Or.inl ⟨by rfl, ?_⟩) hHeld ?_ ?_
              rotate_left
              ·rintro w' ⟨s0, s1, s2, s3, s4, s5⟩
               go_simp
               with_reducible rfl
              rotate_left
              ·simp only [Act.put, List.setIfInBounds_toArray, List.set_cons_zero, List.set_cons_succ, i64_w, i32_w]
               rfl
              refine zP 14 (some 49) #[true,true,true,true,true,true,true,true,true,true,true,true,true,true,true,false,false,false,true] ?_
              refine take_ (i := 15) (N := some 50) (v := ?_) (a' := ?_) #[true, true, true, true, true, true, true, true, true, true, true, true, true, true, true, true, false, false, true] rfl rfl (take_ofW HT_.out HW_.out (by kernel_rfl)) (fun _ _ _ h => h) (Or.inl ⟨by rfl, ?_⟩) hHeld ?_ ?_
              rotate_left
              ·rintro w' ⟨s0, s1, s2, s3, s4, s5⟩
               go_simp
               with_reducible rfl
              rotate_left
              ·simp only [Act.put, List.setIfInBounds_toArray, List.set_cons_zero, List.set_cons_succ, i64_w, i32_w]
               rfl
              refine one_ (i := 16) (N := some 51) #[true, true, true, true, true, true, true, true, true, true, true, true, true, true, true, true, true, false, true] rfl rfl (one_of HT_.out (by kernel_rfl)) (by decide) (fun K hK => ?_)
              refine Kd.R_lit_step (Kd.int .i64) _ 3 ?hg (N := 51) ?hd (xs := ([rd l0_0 (rd x7_2 x8_2), rd l0_1 (rd x7_2 x8_2)] : List Int)) (inner := [.int .i64 (rd l0_0 (rd x7_2 x8_2)), .int .i64 (rd l0_1 (rd x7_2 x8_2))]) (ok := fun _ => True) (okp := fun _ => True) ?hr ?hp (fun _ hk => hk) trivial (Below.refl _ _) (Nat.le_refl _) (by simp) ?_; (case hd => rfl); (case hg => rfl); (case hr => first | (go_simp; done) | (go_simp; rfl)); (case hp => exact (Reps.one (show Kd.M (Kd.int .i64) _ _ _ (rd l0_0 (rd x7_2 x8_2)) [.int .i64 (rd l0_0 (rd x7_2 x8_2))] from rfl) (Reps.one (show Kd.M (Kd.int .i64) _ _ _ (rd l0_1 (rd x7_2 x8_2)) [.int .i64 (rd l0_1 (rd x7_2 x8_2))] from rfl) (Reps.none _ _))))
              intro v182 w30 ho31 hb hg_ hnew_
              have HS2_ := (hb.cell (wL _ _ (hHeld.2.2.1))).trans (hHeld.2.2.1)
              have HS4_ := (hb.cell (wL _ _ (hHeld.2.2.2.2.1))).trans (hHeld.2.2.2.2.1)
              clear hg_ hnew_
              (first | rw [← Ny181.out] at ho31 | (simp only [Int.reduceToNat] at ho31; rw [← Ny181.out] at ho31))
              have HO183 := A0_ (rL (Kd.R_new' (Kd.R_new' ho31 (rX (zR_ HO_5))) (rX (zR_ HO_7))) (bZ (zB_ HB)))
              replace HO_5 := A0_ (Kd.R_elder' (zR_ HO_5) (Kd.R_base ho31) hb)
              replace HO_7 := A0_ (Kd.R_elder' (zR_ HO_7) (Kd.R_base ho31) hb)
              replace BK168 := zK BK168 hb; replace HB := zB HB hb; clear hb ho31; obtain ⟨Ao32, co32, eo32⟩ := rS HO183.out
              (first | subst eo32 | (injection eo32 with f1_ f2_ f3_; have f4_ := f1_.symm; have f5_ := f3_.symm; clear f1_ f2_ f3_; subst f4_; subst f5_))
              refine hK.out _ _ ⟨(kC BK168.out 0).trans rfl, (kC BK168.out 1).trans rfl, HS2_, ((HB.out.cell (wL w _ hw178_0)).trans hw178_0), HS4_, ((HB.out.cell (wL w _ hw180_0)).trans hw180_0)⟩ (fun hHeld => ?_)
              clear hK K
              refine norm_ (a' := ?_) ?_ ?_
              rotate_left
              ·show Act.put _ (some 51) _ = _
               simp only [Act.put, List.setIfInBounds_toArray, List.set_cons_zero, List.set_cons_succ, i64_w, i32_w]
               rfl
              refine zP 17 (some 52) #[true,true,true,true,true,true,true,true,true,true,true,true,true,true,true,true,true,true,true] ?_
              refine done_ (done_of HT_.out (by kernel_rfl)) ?_
              try go_wp2
              (try generalize Value.pointer (some (ad177.add (x8_2 : Int).toNat)) = pz_)
              (try generalize Value.pointer (some (ad179.add (x8_2 : Int).toNat)) = pz_)
              go_loopg [7, 53] k2 (fun kq v7 v53 w' => ∃ (x5_3 : List Int) (x7_3 : List Int) (x53_3 : Int), v53 = .int .i64 x53_3 ∧ Aside0 (impl_namesFrom.l2 kq x5_3 x7_3 x8_2 y181 (y181.length : Int) x53_3 l0_0 l0_1 = some r) ∧ Aside0 (kq ≤ k2) ∧ Aside0 (Kd.R (Kd.int .i64) 3 w' w.heap.size (fun k_ => some k_ ≠ (v7 : Value).ownBlock ∧ some k_ ≠ ((.slice Ao32 y181.length co32) : Value).ownBlock) (.slice (some ⟨go18, 0, none⟩) x5_2.length co9) x5_3) ∧ Aside0 (Kd.R (Kd.int .i64) 3 w' w.heap.size (fun k_ => some k_ ≠ ((.slice (some ⟨go18, 0, none⟩) x5_2.length co9) : Value).ownBlock ∧ some k_ ≠ ((.slice Ao32 y181.length co32) : Value).ownBlock) v7 x7_3) ∧ Aside0 (Kd.R (Kd.int .i64) 3 w' w.heap.size (fun k_ => some k_ ≠ ((.slice (some ⟨go18, 0, none⟩) x5_2.length co9) : Value).ownBlock ∧ some k_ ≠ (v7 : Value).ownBlock) (.slice Ao32 y181.length co32) y181) ∧ Aside0 (w'.heap[gb168]? = some (.cells #[(.slice (some ad178) l0_0.length c0_0), (.slice (some ad180) l0_1.length c0_1)] 25 (0, 0))) ∧ Aside0 (Below w.heap.size w w'))
              case atStart => exact ⟨(x5_2), (x7_2), (0), zt, H', ⟨Nat.le_refl _⟩, ⟨by (try simp only [hl5_1]); (try simp only [hl5_2]); (with_reducible repeat (first | apply rA | apply rN | apply rD)); exact HO_5.out⟩, ⟨by (try simp only [hl5_1]); (try simp only [hl5_2]); (with_reducible repeat (first | apply rA | apply rN | apply rD)); exact HO_7.out⟩, ⟨by (try simp only [hl5_1]); (try simp only [hl5_2]); (with_reducible repeat (first | apply rA | apply rN | apply rD)); exact rM HO183.out (fun _ hk => ⟨hk.1.2, hk.2⟩)⟩, ⟨by (try simp only [hl5_1]); (try simp only [hl5_2]); (with_reducible repeat (first | refine kN ?_ _ | refine kD ?_ | refine kA ?_ _)); exact BK168.out⟩, ⟨zB_ HB⟩⟩
              case round =>
               clear H'; (try clear c1); (try clear p1); (try clear q1); (try clear hx1); (try clear c2); (try clear p2); (try clear c3); (try clear c3b0); (try clear c3b1); (try clear c4); (try clear c4b0); (try clear c4b1); (try clear c5); (try clear p6); (try clear c10); (try clear c10b0); (try clear c11); (try clear c11b0); (try clear c12); (try clear c12b0); (try clear p13); (try clear q13); (try clear hx13); (try clear hf13); (try clear c16); (try clear c16b0); (try clear c17); (try clear c17b0); (try clear p17); (try clear q17); (try clear hx17); (try clear p18); (try clear q18); (try clear hx18); (try clear hf18); (try clear c23); (try clear c23b0); (try clear c24); (try clear c24b0); (try clear c25); (try clear c25b0); (try clear c26); (try clear c26b0); (try clear c27); (try clear c27b0); (try clear hcz6_0); (try clear hcz6_1); (try clear hfz6_0); (try clear hfz6_1); (try clear hx13_0); (try clear hx177_0); (try clear hx178_0); (try clear hx179_0); (try clear hx180_0); (try clear hx18_0); (try clear p1); (try clear p13); (try clear p177); (try clear p178); (try clear p179); (try clear p18); (try clear p180); (try clear p2); (try clear p6); (try clear q1); (try clear q13); (try clear q177); (try clear q178); (try clear q179); (try clear q18); (try clear q180); obtain ⟨x5_3, x7_3, x53_3, rfl, HA, HK3, HO_5, HO_7, HO_51, BK168, HB⟩ := hrel; have hl5_3 := (rR HO_5.out).1; rw [hl5_3] at HO_5; (try simp only [hl5_3]); (try simp only [hl5_3] at BK168); (try simp only [hl5_3] at HO_7); (try simp only [hl5_3] at HO_51)
               cases gk with
               | zero => exact absurd HA.out (by simp [impl_namesFrom.l2])
               | succ k3 =>
                have H := HA.out; clear HA; simp only [impl_namesFrom.l2] at H
                by_cases c33 : x53_3 < (y181.length : Int)
                ·rw [if_pos c33] at H
                 have c33b0 := dT c33; (try simp only [hl5_1] at c33b0); (try simp only [hl5_2] at c33b0); (try simp only [hl5_3] at c33b0); clear c33
                 by_cases c34 : 0 ≤ x53_3
                 ·rw [if_pos c34] at H
                  have c34b0 := dT c34; clear c34
                  by_cases c35 : x53_3 < (y181.length : Int)
                  ·rw [if_pos c35] at H
                   have c35b0 := dT c35; (try simp only [hl5_1] at c35b0); (try simp only [hl5_2] at c35b0); (try simp only [hl5_3] at c35b0); clear c35
                   by_cases c36 : 0 ≤ (rd y181 x53_3)
                   ·rw [if_pos c36] at H
                    have c36b0 := dT c36; clear c36
                    by_cases c37 : (rd y181 x53_3) < (x5_3.length : Int)
                    ·rw [if_pos c37] at H
                     have c37b0 := dT c37; (try simp only [hl5_1] at c37b0); (try simp only [hl5_2] at c37b0); (try simp only [hl5_3] at c37b0); clear c37
                     by_cases c38 : (rd x5_3 (rd y181 x53_3)) < 0
                     ·rw [if_pos c38] at H
                      have c38b0 := dT c38; clear c38
                      obtain ⟨y186, hy186⟩ : ∃ y_ : List Int, y_ = (x5_3.set ((rd y181 x53_3) : Int).toNat (x7_3.length : Int)) := ⟨_, rfl⟩
                      replace H : (if x7_3.length < 17592186044416 then (impl_namesFrom.l2 k3 y186 (x7_3 ++ [rd y181 x53_3]) x8_2 y181 (y181.length : Int) (wrap64 (x53_3 + 1)) l0_0 l0_1) else (none)) = some r := zH hy186 H
                      have Ny186 := A0_ hy186; clear hy186
                      by_cases c40 : x7_3.length < 17592186044416
                      ·rw [if_pos c40] at H
                       have LMc40 := A0_ c40; clear c40
                       obtain ⟨y187, hy187⟩ : ∃ y_ : List Int, y_ = (x7_3 ++ [rd y181 x53_3]) := ⟨_, rfl⟩
                       replace H : (impl_namesFrom.l2 k3 y186 y187 x8_2 y181 (y181.length : Int) (wrap64 (x53_3 + 1)) l0_0 l0_1) = some r := zH hy187 H
                       have Ny187 := A0_ hy187; clear hy187; have H' := A0_ H; clear H
                       have p184 : 0 ≤ (x53_3 : Int) := zd
                       have q184 : x53_3 < (y181.length : Int) := zd
                       obtain ⟨ad184, e184, hx184_0⟩ := tI (rR HO_51.out).2.2 x53_3 p184 q184
                       cases e184
                       replace p184 := eq_true p184; replace q184 := eq_true q184
                       have p185 : 0 ≤ ((rd y181 x53_3) : Int) := zd
                       have q185 : (rd y181 x53_3) < (x5_3.length : Int) := zd
                       obtain ⟨ad185, e185, hx185_0⟩ := tI (rR HO_5.out).2.2 (rd y181 x53_3) p185 q185
                       obtain rfl : (⟨go18, 0, none⟩ : Addr) = ad185 := (by injection e185)
                       (first | simp only [add_plain] at hx185_0 | simp only [add_at] at hx185_0 | simp only [Addr.add, Nat.zero_add] at hx185_0 | skip)
                       replace p185 := eq_true p185; replace q185 := eq_true q185; obtain ⟨Ao41, co41, eo41⟩ := rS HO_7.out; subst eo41
                       have p39 : 0 ≤ ((rd y181 x53_3) : Int) := zd
                       have q39 : ((rd y181 x53_3) : Int) < ((x5_3.length : Int) : Int) := zd
                       obtain ⟨hx39_0, hf39_0⟩ := Kd.R_celln 0 HO_5.out ((rd y181 x53_3) : Int) p39 q39
                       replace p39 := eq_true p39; replace q39 := eq_true q39
                       have HP42 := Kd.R_putg HO_5.out ((rd y181 x53_3) : Int) (x7_3.length : Int)
                       go_wp2_with (first | ((with_reducible refine gS (t := 3) (p := 66) rfl ?_); refine store_event (t := 3) (p := 66) (v := ?vo_w43) (w1 := (wr.setCell ⟨go18, ((rd y181 x53_3) : Int).toNat, none⟩ (.int .i64 (x7_3.length : Int)))) ?hg ?ho ?hn ?hr ?_; (case ho => rfl); (case hg => rfl); (case hn => rfl); (case hr => first | (go_simp; done) | (go_simp; rfl)); intro w43 hw; have hg : wr.grownBy w43 (some go18) := (by rw [hw]; exact HP42.2); have hp_ : Kd.R (Kd.int .i64) 3 w43 w.heap.size (fun k_ => some k_ ≠ (.slice Ao41 x7_3.length co41 : Value).ownBlock ∧ some k_ ≠ (.slice (some ad184) y181.length co32 : Value).ownBlock) (.slice (some ⟨go18, 0, none⟩) x5_3.length co9) y186 := (by rw [hw, Ny186.out]; exact HP42.1); clear HP42; replace HO_7 := A0_ (Kd.R_after (v := (.slice (some ⟨go18, 0, none⟩) x5_3.length co9)) (v1 := (.slice (some ⟨go18, 0, none⟩) x5_3.length co9)) (ok := (fun k_ => some k_ ≠ (.slice (some ad184) y181.length co32 : Value).ownBlock)) (zmR HO_7 (fun _ hk => ⟨hk.2, hk.1⟩)) hg (.inl rfl)); replace HO_51 := A0_ (Kd.R_after (v := (.slice (some ⟨go18, 0, none⟩) x5_3.length co9)) (v1 := (.slice (some ⟨go18, 0, none⟩) x5_3.length co9)) (ok := (fun k_ => some k_ ≠ (.slice Ao41 x7_3.length co41 : Value).ownBlock)) (zmR HO_51 (fun _ hk => ⟨hk.2, hk.1⟩)) hg (.inl rfl)); replace BK168 := A0_ (blk_grown (g := gb168) (o := .cells #[.slice (some ad178) l0_0.length c0_0, .slice (some ad180) l0_1.length c0_1] 25 (0, 0)) (zK_ BK168) hg (Kd.R_ne HO_5.out BK168.out (by decide))); replace HO_5 := A0_ (hp_); replace HB := A0_ ((by rw [hw]; exact bS (HB.out) GB18.out : Below w.heap.size w w43)); clear hg hw hp_) | ((with_reducible refine gB (b := .append) (xs := #[.tmp 67, .tmp 69]) rfl ?_); at_builtin; refine Kd.R_append (Kd.int .i64) (w0 := w) w.heap.size rfl (.tmp 67) (.tmp 69) 23 3 (.int .i64 0) 8 rfl Tryz.underlying23 info3 rfl (by decide) (by omega) (.slice Ao41 x7_3.length co41) x7_3 (rd y181 x53_3) [.int .i64 (rd y181 x53_3)] (fun k_ => some k_ ≠ (.slice (some ⟨go18, 0, none⟩) x5_3.length co9 : Value).ownBlock ∧ some k_ ≠ (.slice (some ad184) y181.length co32 : Value).ownBlock) (fun _ => False) rfl rfl ?aP (fun _ hk => hk.elim) ?aF ?aO ?aB ?aS ?aL ?_; (case aP => exact rfl); (case aB => exact (zB_ HB)); (case aF => exact (fun k_ hk => ⟨Kd.fresh' (rX (zR_ HO_5)) k_ hk, Kd.fresh' (rX (zR_ HO_51)) k_ hk⟩)); (case aO => exact (zmR HO_7 (fun _ hk => ⟨hk.2, hk.1⟩))); (case aS => exact (bZ (zB_ HB))); (case aL => have := LMc40.out; omega); intro v188 w44 ho hb hg hat; rw [← Ny187.out] at ho; replace HO_5 := A0_ (Kd.R_after (ok := (fun k_ => some k_ ≠ (.slice (some ad184) y181.length co32 : Value).ownBlock)) (zmR HO_5 (fun _ hk => ⟨hk.2, hk.1⟩)) hg hat); replace HO_51 := A0_ (Kd.R_after (ok := (fun k_ => some k_ ≠ (.slice (some ⟨go18, 0, none⟩) x5_3.length co9 : Value).ownBlock)) (zmR HO_51 (fun _ hk => ⟨hk.2, hk.1⟩)) hg hat); replace BK168 := A0_ (blk_grown (g := gb168) (o := .cells #[.slice (some ad178) l0_0.length c0_0, .slice (some ad180) l0_1.length c0_1] 25 (0, 0)) (zK_ BK168) hg (Kd.R_ne HO_7.out BK168.out (by decide))); replace HB := A0_ (hb); have HO189 := A0_ (ho); clear HO_7 ho hb hg hat))
                       (try simp only [← hl5_3])
                       go_roundg k3
                       case measure => have := HK1.out; have := HK2.out; have := HK3.out; omega
                       case rel => exact ⟨(y186), (y187), (wrap64 (x53_3 + 1)), zt, H', ⟨by have := HK1.out; have := HK2.out; have := HK3.out; omega⟩, ⟨by (try simp only [hl5_1]); (try simp only [hl5_2]); (try simp only [hl5_3]); (with_reducible repeat (first | apply rA | apply rN | apply rD)); exact rM HO_5.out (fun _ hk => ⟨hk.2, hk.1⟩)⟩, ⟨by (try simp only [hl5_1]); (try simp only [hl5_2]); (try simp only [hl5_3]); (with_reducible repeat (first | apply rA | apply rN | apply rD)); exact HO189.out⟩, ⟨by (try simp only [hl5_1]); (try simp only [hl5_2]); (try simp only [hl5_3]); (with_reducible repeat (first | apply rA | apply rN | apply rD)); exact HO_51.out⟩, ⟨by (try simp only [hl5_1]); (try simp only [hl5_2]); (try simp only [hl5_3]); (with_reducible repeat (first | refine kN ?_ _ | refine kD ?_ | refine kA ?_ _)); exact BK168.out⟩, ⟨zB_ HB⟩⟩
                      rw [if_neg c40] at H
                      exact absurd H (by simp)
                     rw [if_neg c38] at H; have c38b0 := dF c38; clear c38; have H' := A0_ H; clear H
                     have p184 : 0 ≤ (x53_3 : Int) := zd
                     have q184 : x53_3 < (y181.length : Int) := zd
                     obtain ⟨ad184, e184, hx184_0⟩ := tI (rR HO_51.out).2.2 x53_3 p184 q184
                     cases e184
                     replace p184 := eq_true p184; replace q184 := eq_true q184
                     have p185 : 0 ≤ ((rd y181 x53_3) : Int) := zd
                     have q185 : (rd y181 x53_3) < (x5_3.length : Int) := zd
                     obtain ⟨ad185, e185, hx185_0⟩ := tI (rR HO_5.out).2.2 (rd y181 x53_3) p185 q185
                     obtain rfl : (⟨go18, 0, none⟩ : Addr) = ad185 := (by injection e185)
                     (first | simp only [add_plain] at hx185_0 | simp only [add_at] at hx185_0 | simp only [Addr.add, Nat.zero_add] at hx185_0 | skip)
                     replace p185 := eq_true p185; replace q185 := eq_true q185
                     go_wp2
                     (try simp only [← hl5_3])
                     go_roundg k3
                     case measure => have := HK1.out; have := HK2.out; have := HK3.out; omega
                     case rel => exact ⟨(x5_3), (x7_3), (wrap64 (x53_3 + 1)), zt, H', ⟨by have := HK1.out; have := HK2.out; have := HK3.out; omega⟩, ⟨by (try simp only [hl5_1]); (try simp only [hl5_2]); (try simp only [hl5_3]); (with_reducible repeat (first | apply rA | apply rN | apply rD)); exact HO_5.out⟩, ⟨by (try simp only [hl5_1]); (try simp only [hl5_2]); (try simp only [hl5_3]); (with_reducible repeat (first | apply rA | apply rN | apply rD)); exact HO_7.out⟩, ⟨by (try simp only [hl5_1]); (try simp only [hl5_2]); (try simp only [hl5_3]); (with_reducible repeat (first | apply rA | apply rN | apply rD)); exact HO_51.out⟩, ⟨by (try simp only [hl5_1]); (try simp only [hl5_2]); (try simp only [hl5_3]); (with_reducible repeat (first | refine kN ?_ _ | refine kD ?_ | refine kA ?_ _)); exact BK168.out⟩, ⟨zB_ HB⟩⟩
                    rw [if_neg c37] at H
                    exact absurd H (by simp)
                   rw [if_neg c36] at H
                   exact absurd H (by simp)
                  rw [if_neg c35] at H
                  exact absurd H (by simp)
                 rw [if_neg c34] at H
                 exact absurd H (by simp)
                rw [if_neg c33] at H; have c33b0 := dF c33; (try simp only [hl5_1] at c33b0); (try simp only [hl5_2] at c33b0); (try simp only [hl5_3] at c33b0); clear c33; have H' := A0_ H; clear H
                go_wp2
                (try simp only [← hl5_2, ← hl5_3])
                go_roundg k3
                case measure => have := HK1.out; have := HK2.out; have := HK3.out; omega
                case rel => exact ⟨(x5_3), (x7_3), (wrap64 (x8_2 + 1)), zt, H', ⟨by have := HK1.out; have := HK2.out; have := HK3.out; omega⟩, ⟨by (try simp only [hl5_1]); (try simp only [hl5_2]); (try simp only [hl5_3]); (with_reducible repeat (first | apply rA | apply rN | apply rD)); exact rM HO_5.out (fun _ hk => hk.1)⟩, ⟨by (try simp only [hl5_1]); (try simp only [hl5_2]); (try simp only [hl5_3]); (with_reducible repeat (first | apply rA | apply rN | apply rD)); exact rM HO_7.out (fun _ hk => hk.1)⟩, ⟨by (try simp only [hl5_1]); (try simp only [hl5_2]); (try simp only [hl5_3]); (with_reducible repeat (first | refine kN ?_ _ | refine kD ?_ | refine kA ?_ _)); exact BK168.out⟩, ⟨zB_ HB⟩⟩
             rw [if_neg c27] at H
             exact absurd H (by simp)
            rw [if_neg c26] at H
            exact absurd H (by simp)
           rw [if_neg c25] at H
           exact absurd H (by simp)
          rw [if_neg c24] at H
          exact absurd H (by simp)
         rw [if_neg c23] at H; have c23b0 := dF c23; (try simp only [hl5_1] at c23b0); (try simp only [hl5_2] at c23b0); clear c23; obtain rfl := sI H; obtain ⟨Ao45, co45, eo45⟩ := rS HO_7.out; subst eo45
         go_wp2
         go_ret
         exact ⟨_, by first | rfl | (simp [*] <;> rfl), zmR HO_5 (fun _ hk => trivial), zB_ HB⟩
      rw [if_neg c17] at H
      exact absurd H (by simp)
     rw [if_neg c16] at H
     exact absurd H (by simp)
  rw [if_neg c4] at H
  exact absurd H (by simp)
 rw [if_neg c3] at H
 exact absurd H (by simp)

end Go.Proofs.YtikkokflcgcnbaaGreatDoor.PFnExecuteForm
