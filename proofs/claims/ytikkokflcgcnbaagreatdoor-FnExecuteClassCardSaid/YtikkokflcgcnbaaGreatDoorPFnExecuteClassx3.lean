-- Made by a program of this session (wip/tools) out of the loaded program; not trusted: Lean checks it.
import Derived.Test.YtikkokflcgcnbaaGreatDoorPFnExecuteClassx0
import Derived.Test.YtikkokflcgcnbaaGreatDoorPFnExecuteClassx2
-- packed
namespace Go.Proofs.YtikkokflcgcnbaaGreatDoor.PFnExecuteClass
open Go.RowKit Go.Proofs.YtikkokflcgcnbaaGreatDoorW.PrintWords Go.Proofs.YtikkokflcgcnbaaGreatDoorW.PrintLast Go.Proofs.YtikkokflcgcnbaaGreatDoorW.PrintMore
attribute [local go_sem] max2_int min2_int max_two min_two max_three min_three max_four min_four   -- for this text's walks alone
set_option linter.unusedVariables false
set_option linter.unusedSimpArgs false

/-! ### impl_cornersOf: function 86 -/
mutual
def impl_cornersOf.l0 : Nat → ByteArray → Int → List Int → List Int → List Int → Int → Int → Option (Int)
  | 0, _, _, _, _, _, _, _ => none
  | k + 1, x0, x3, x4, x5, x22, x23, x24 => if x24 < x23 then (if 0 ≤ x24 then (if x24 < (x22.length : Int) then (if x3 = 0 then (none) else (if 0 ≤ (wrap64 ((wrap64 (2 * x24)) + 1)) then (if (wrap64 ((wrap64 (2 * x24)) + 1)) < (x4.length : Int) then (if 0 ≤ (wrap64 (2 * (Int.tmod (wrap64 (x24 + 1)) x3))) then (if (wrap64 (2 * (Int.tmod (wrap64 (x24 + 1)) x3))) < (x4.length : Int) then ((some ((x4.set ((wrap64 ((wrap64 (2 * x24)) + 1)) : Int).toNat (wrap64 (2 * (Int.tmod (wrap64 (x24 + 1)) x3)))).set ((wrap64 (2 * (Int.tmod (wrap64 (x24 + 1)) x3))) : Int).toNat (wrap64 ((wrap64 (2 * x24)) + 1)) : List Int)).bind fun y134 => (if x24 < (x0.size : Int) then (if 0 ≤ (rd x22 x24) then (if (rd x22 x24) < (x0.size : Int) then (if (bt x0 x24) = (bt x0 (rd x22 x24)) then (if 0 ≤ (wrap64 (2 * x24)) then (if (wrap64 (2 * x24)) < (x5.length : Int) then (if (wrap64 ((wrap64 (2 * x24)) + 1)) < (x5.length : Int) then (impl_cornersOf.l0 k x0 x3 y134 ((x5.set ((wrap64 (2 * x24)) : Int).toNat (wrap64 (2 * (rd x22 x24)))).set ((wrap64 ((wrap64 (2 * x24)) + 1)) : Int).toNat (wrap64 ((wrap64 (2 * (rd x22 x24))) + 1))) x22 x23 (wrap64 (x24 + 1))) else (none)) else (none)) else (none)) else (if 0 ≤ (wrap64 (2 * x24)) then (if (wrap64 (2 * x24)) < (x5.length : Int) then (if (wrap64 ((wrap64 (2 * x24)) + 1)) < (x5.length : Int) then (impl_cornersOf.l0 k x0 x3 y134 ((x5.set ((wrap64 (2 * x24)) : Int).toNat (wrap64 ((wrap64 (2 * (rd x22 x24))) + 1))).set ((wrap64 ((wrap64 (2 * x24)) + 1)) : Int).toNat (wrap64 (2 * (rd x22 x24)))) x22 x23 (wrap64 (x24 + 1))) else (none)) else (none)) else (none))) else (none)) else (none)) else (none))) else (none)) else (none)) else (none)) else (none))) else (none)) else (none)) else ((impl_orbits.f k (([x4, x5] : List (List Int)))).bind fun t142 => (impl_cornersOf.l1 k 0 t142 (t142.length : Int) 0))
def impl_cornersOf.l1 : Nat → Int → List Int → Int → Int → Option (Int)
  | 0, _, _, _, _ => none
  | k + 1, x10, x80, x81, x82 => if x82 < x81 then (if 0 ≤ x82 then (if x82 < (x80.length : Int) then (if x82 = (rd x80 x82) then (impl_cornersOf.l1 k (wrap64 (x10 + 1)) x80 x81 (wrap64 (x82 + 1))) else (impl_cornersOf.l1 k x10 x80 x81 (wrap64 (x82 + 1)))) else (none)) else (none)) else (some x10)
end
def impl_cornersOf.f (k : Nat) (a0 : ByteArray) : Option (Int) := if 0 ≤ (wrap64 (2 * (a0.size : Int))) then (if (wrap64 (2 * (a0.size : Int)) : Int).toNat ≤ 35184372088832 then ((impl_partnersOf.f k a0).bind fun t129 => (impl_cornersOf.l0 k a0 (a0.size : Int) (List.replicate (wrap64 (2 * (a0.size : Int)) : Int).toNat 0) (List.replicate (wrap64 (2 * (a0.size : Int)) : Int).toNat 0) t129 (t129.length : Int) 0)) else (none)) else (none)
def impl_cornersOf.T2 : Bool × List (List Nat × List Nat) := (true, [([], []), ([0], [0]), ([1, 1], [1]), ([], []), ([3], [3]), ([4, 4], [4]), ([2, 0, 1, 2], [2]), ([5, 6, 0, 1, 2, 3, 4, 5, 6], [5])])
def impl_cornersOf.B2 : List Nat := [0, 1, 3, 0, 8, 24, 7, 127]
theorem impl_cornersOf.tab2 : rtab .any (opsOf Tryz.f86 2) = impl_cornersOf.T2 := by kernel_rfl
theorem impl_cornersOf.bits2 : waitsOk impl_cornersOf.T2.2 impl_cornersOf.B2 = true := by kernel_rfl
def impl_cornersOf.T6 : Bool × List (List Nat × List Nat) := (true, [([], []), ([0], [0]), ([1], [1]), ([], []), ([3], [3]), ([], []), ([4, 5], [4, 5]), ([6], [6]), ([2, 0, 1, 2], [2]), ([7, 8, 0, 1, 2, 3, 4, 5, 6, 7, 8], [7])])
def impl_cornersOf.B6 : List Nat := [0, 1, 3, 0, 8, 0, 56, 120, 7, 511]
theorem impl_cornersOf.tab6 : rtab .any (opsOf Tryz.f86 6) = impl_cornersOf.T6 := by kernel_rfl
theorem impl_cornersOf.bits6 : waitsOk impl_cornersOf.T6.2 impl_cornersOf.B6 = true := by kernel_rfl
set_option maxHeartbeats 8000000 in
set_option maxRecDepth 100000 in
theorem impl_cornersOf.calls (k : Nat) (a0 : ByteArray) (r : Int) (w : World) (h : impl_cornersOf.f k a0 = some r) :
    Calls Tryz.prog 86 #[.string a0] w fun e w' => e = .returned (.int .i64 r) ∧ Below w.heap.size w w' := by
 have HB := A0_ (Below.refl w.heap.size w)
 have H : (if 0 ≤ (wrap64 (2 * (a0.size : Int))) then (if (wrap64 (2 * (a0.size : Int)) : Int).toNat ≤ 35184372088832 then ((impl_partnersOf.f k a0).bind fun t129 => (impl_cornersOf.l0 k a0 (a0.size : Int) (List.replicate (wrap64 (2 * (a0.size : Int)) : Int).toNat 0) (List.replicate (wrap64 (2 * (a0.size : Int)) : Int).toNat 0) t129 (t129.length : Int) 0)) else (none)) else (none)) = some r := h
 clear h
 obtain ⟨ji2, hji2⟩ : ∃ j_ : Int, (wrap64 (2 * (a0.size : Int))) = j_ := ⟨_, rfl⟩
 replace H : (if 0 ≤ (ji2) then (if (ji2 : Int).toNat ≤ 35184372088832 then ((impl_partnersOf.f k a0).bind fun t129 => (impl_cornersOf.l0 k a0 (a0.size : Int) (List.replicate (ji2 : Int).toNat 0) (List.replicate (ji2 : Int).toNat 0) t129 (t129.length : Int) 0)) else (none)) else (none)) = some r := by first | (rw [hji2] at H; exact H) | (simp only [hji2] at H ⊢; exact H)
 have hji2w : (IntKind.i64.wrap (2 * (a0.size : Int))) = ji2 := (i64_w _).trans hji2
 by_cases c3 : 0 ≤ (ji2)
 ·rw [if_pos c3] at H
  have c3b0 := eq_true c3; have c3b1 := dT c3; clear c3
  by_cases c4 : (ji2 : Int).toNat ≤ 35184372088832
  ·rw [if_pos c4] at H
   have c4b0 := eq_true c4; have c4b1 := dT c4; clear c4
   obtain ⟨y123, hy123⟩ : ∃ y_ : List Int, y_ = (List.replicate (ji2 : Int).toNat 0) := ⟨_, rfl⟩
   replace H : ((impl_partnersOf.f k a0).bind fun t129 => (impl_cornersOf.l0 k a0 (a0.size : Int) y123 (List.replicate (ji2 : Int).toNat 0) t129 (t129.length : Int) 0)) = some r := zH hy123 H
   have Ny123 := A0_ hy123; clear hy123
   obtain ⟨y126, hy126⟩ : ∃ y_ : List Int, y_ = (List.replicate (ji2 : Int).toNat 0) := ⟨_, rfl⟩
   replace H : ((impl_partnersOf.f k a0).bind fun t129 => (impl_cornersOf.l0 k a0 (a0.size : Int) y123 y126 t129 (t129.length : Int) 0)) = some r := zH hy126 H
   have Ny126 := A0_ hy126; clear hy126; obtain ⟨t129, A5, H⟩ := zbind H; have H' := A0_ H; clear H
   go_enter Tryz.func86, Tryz.ntmps86
   try go_wp2
   replace HB := A0_ (bD HB.out)
   refine start_ (n := 8) (S := fun w' => True) (ds := []) #[false, false, false, false, false, false, false, false] (by kernel_rfl) rfl rfl trivial (fun hHeld => ?_); refine with_tabW impl_cornersOf.tab2 impl_cornersOf.bits2 (fun HT_ HW_ => ?_)
   generalize w.drew = w6 at HB hHeld ⊢
   refine zP 0 (some 15) #[true,false,false,false,false,false,false,false] ?_
   refine zP 1 (some 16) #[true,true,false,false,false,false,false,false] ?_
   refine zP 3 (some 18) #[true,true,false,true,false,false,false,false] ?_
   refine zP 4 (some 19) #[true,true,false,true,true,false,false,false] ?_
   refine join_ (σ := Value × Value) 1 #[true, true, true, true, true, true, true, false] (fun s_ => [(17, s_.1), (20, s_.2), (4, s_.1)]) (fun s_ w' => (Kd.R (Kd.int .i64) 3 w' w.heap.size (fun k_ => some k_ ≠ (s_.2 : Value).ownBlock) s_.1 y123) ∧ (Kd.R (Kd.int .i64) 3 w' w.heap.size (fun k_ => some k_ ≠ (s_.1 : Value).ownBlock) s_.2 y126) ∧ (Below w.heap.size w w')) ?_ ?_
   rotate_left
   ·intro hCont
    refine two_ (i := 2) (j := 5) (Ni := some 17) (Nj := some 20) #[true, true, true, true, true, false, false, false] #[true, true, false, true, true, true, false, false] rfl rfl rfl rfl (two_of HT_.out (by kernel_rfl)) (by decide) (by decide) (fun K hK => ?_) (fun K hK => ?_)
    ·skip
     refine Kd.R_make_step (Kd.int .i64) _ 3 (by rfl) (N := 17) rfl 23 _ _ rfl ji2 rfl rfl Tryz.underlying23 (.int .i64 0) 8 info3 rfl (by decide) (by omega) 0 (ok := fun _ => True) (okp := fun _ => True) rfl (fun _ hk => hk) trivial (zd) (Nat.le_trans (Nat.mul_le_mul_right _ (zd : ji2.toNat ≤ 35184372088832)) (by omega)) (Below.refl _ _) (Nat.le_refl _) ?_
     intro v124 w7 ho8 hb hg_ hnew_
     clear hg_ hnew_
     (first | rw [← Ny123.out] at ho8 | (simp only [Int.reduceToNat] at ho8; rw [← Ny123.out] at ho8))
     have HO125 := A0_ (rL ho8 (bZ (zB_ HB)))
     replace HB := zB HB hb; clear hb ho8
     refine hK.out _ _ trivial (fun hHeld => ?_)
     clear hK K
     refine norm_ (a' := ?_) ?_ ?_
     rotate_left
     ·show Act.put _ (some 17) _ = _
      simp only [Act.put, List.setIfInBounds_toArray, List.set_cons_zero, List.set_cons_succ, i64_w, i32_w]
      rfl
     refine zP 6 (some 4) #[true,true,true,true,true,false,true,false] ?_
     refine one_ (i := 5) (N := some 20) #[true, true, true, true, true, true, true, false] rfl rfl (one_of HT_.out (by kernel_rfl)) (by decide) (fun K hK => ?_)
     refine Kd.R_make_step (Kd.int .i64) _ 3 (by rfl) (N := 20) rfl 23 _ _ rfl ji2 rfl rfl Tryz.underlying23 (.int .i64 0) 8 info3 rfl (by decide) (by omega) 0 (ok := fun _ => True) (okp := fun _ => True) rfl (fun _ hk => hk) trivial (zd) (Nat.le_trans (Nat.mul_le_mul_right _ (zd : ji2.toNat ≤ 35184372088832)) (by omega)) (Below.refl _ _) (Nat.le_refl _) ?_
     intro v127 w9 ho10 hb hg_ hnew_
     clear hg_ hnew_
     (first | rw [← Ny126.out] at ho10 | (simp only [Int.reduceToNat] at ho10; rw [← Ny126.out] at ho10))
     have HO128 := A0_ (rL (Kd.R_new' ho10 (rX (zR_ HO125))) (bZ (zB_ HB)))
     replace HO125 := A0_ (Kd.R_elder' (zR_ HO125) (Kd.R_base ho10) hb)
     replace HB := zB HB hb; clear hb ho10
     refine hK.out _ _ trivial (fun hHeld => ?_)
     clear hK K
     refine norm_ (a' := ?_) ?_ ?_
     rotate_left
     ·show Act.put _ (some 20) _ = _
      simp only [Act.put, List.setIfInBounds_toArray, List.set_cons_zero, List.set_cons_succ, i64_w, i32_w]
      rfl
     exact norm_ (by simp only [putAll, Act.put, List.setIfInBounds_toArray, List.set_cons_zero, List.set_cons_succ]) (hCont (v124, v127) _ ⟨(zmR HO125 (fun _ hk => hk.2)), (zmR HO128 (fun _ hk => hk.2)), (zB_ HB)⟩)
    skip
    refine Kd.R_make_step (Kd.int .i64) _ 3 (by rfl) (N := 20) rfl 23 _ _ rfl ji2 rfl rfl Tryz.underlying23 (.int .i64 0) 8 info3 rfl (by decide) (by omega) 0 (ok := fun _ => True) (okp := fun _ => True) rfl (fun _ hk => hk) trivial (zd) (Nat.le_trans (Nat.mul_le_mul_right _ (zd : ji2.toNat ≤ 35184372088832)) (by omega)) (Below.refl _ _) (Nat.le_refl _) ?_
    intro v127 w7 ho8 hb hg_ hnew_
    clear hg_ hnew_
    (first | rw [← Ny126.out] at ho8 | (simp only [Int.reduceToNat] at ho8; rw [← Ny126.out] at ho8))
    have HO128 := A0_ (rL ho8 (bZ (zB_ HB)))
    replace HB := zB HB hb; clear hb ho8
    refine hK.out _ _ trivial (fun hHeld => ?_)
    clear hK K
    refine norm_ (a' := ?_) ?_ ?_
    rotate_left
    ·show Act.put _ (some 20) _ = _
     simp only [Act.put, List.setIfInBounds_toArray, List.set_cons_zero, List.set_cons_succ, i64_w, i32_w]
     rfl
    refine one_ (i := 2) (N := some 17) #[true, true, true, true, true, true, false, false] rfl rfl (one_of HT_.out (by kernel_rfl)) (by decide) (fun K hK => ?_)
    refine Kd.R_make_step (Kd.int .i64) _ 3 (by rfl) (N := 17) rfl 23 _ _ rfl ji2 rfl rfl Tryz.underlying23 (.int .i64 0) 8 info3 rfl (by decide) (by omega) 0 (ok := fun _ => True) (okp := fun _ => True) rfl (fun _ hk => hk) trivial (zd) (Nat.le_trans (Nat.mul_le_mul_right _ (zd : ji2.toNat ≤ 35184372088832)) (by omega)) (Below.refl _ _) (Nat.le_refl _) ?_
    intro v124 w9 ho10 hb hg_ hnew_
    clear hg_ hnew_
    (first | rw [← Ny123.out] at ho10 | (simp only [Int.reduceToNat] at ho10; rw [← Ny123.out] at ho10))
    have HO125 := A0_ (rL (Kd.R_new' ho10 (rX (zR_ HO128))) (bZ (zB_ HB)))
    replace HO128 := A0_ (Kd.R_elder' (zR_ HO128) (Kd.R_base ho10) hb)
    replace HB := zB HB hb; clear hb ho10
    refine hK.out _ _ trivial (fun hHeld => ?_)
    clear hK K
    refine norm_ (a' := ?_) ?_ ?_
    rotate_left
    ·show Act.put _ (some 17) _ = _
     simp only [Act.put, List.setIfInBounds_toArray, List.set_cons_zero, List.set_cons_succ, i64_w, i32_w]
     rfl
    refine zP 6 (some 4) #[true,true,true,true,true,true,true,false] ?_
    exact norm_ (by simp only [putAll, Act.put, List.setIfInBounds_toArray, List.set_cons_zero, List.set_cons_succ]) (hCont (v124, v127) _ ⟨(zmR HO125 (fun _ hk => hk.2)), (zmR HO128 (fun _ hk => hk.2)), (zB_ HB)⟩)
   rintro ⟨v124, v127⟩ w11 ⟨h0_, h1_, h2_⟩
   have HO125 : Aside0 (Kd.R (Kd.int .i64) 3 w11 w.heap.size (fun k_ => some k_ ≠ (v127 : Value).ownBlock) v124 y123) := ⟨h0_⟩
   have HO128 : Aside0 (Kd.R (Kd.int .i64) 3 w11 w.heap.size (fun k_ => some k_ ≠ (v124 : Value).ownBlock) v127 y126) := ⟨h1_⟩
   replace HB : Aside0 (Below w.heap.size w w11) := ⟨h2_⟩
   clear h0_ h1_ h2_; have hHeld := trivial
   refine norm_ (a' := ?_) ?_ ?_
   rotate_left
   ·simp only [putAll, Act.put, List.setIfInBounds_toArray, List.set_cons_zero, List.set_cons_succ]
    rfl
   refine zP 7 (some 5) #[true,true,true,true,true,true,true,true] ?_
   refine done_ (done_of HT_.out (by kernel_rfl)) ?_
   try go_wp2_with (first | ((with_reducible refine gC (f := 87) rfl ?_); refine zJ (some 22) Tryz.func87 #[.string a0] ?_; (with_reducible refine (impl_partnersOf.calls k a0 t129 _ A5.out).mono ?_); rintro e w12 ⟨v130, rfl, ho0, hb⟩; refine ⟨_, rfl, ?_⟩; have HO131 := A0_ (rL (Kd.R_new' (Kd.R_new' ho0 (rX (zR_ HO125))) (rX (zR_ HO128))) (bZ (zB_ HB))); replace HO125 := A0_ (Kd.R_elder' (zR_ HO125) (Kd.R_base ho0) hb); replace HO128 := A0_ (Kd.R_elder' (zR_ HO128) (Kd.R_base ho0) hb); replace HB := zB HB hb; (try clear hb); (try clear ho0); obtain ⟨Ao13, co13, eo13⟩ := rS HO131.out; subst eo13))
   go_loopg [24] k (fun kq v24 w' => ∃ (x4_1 : List Int) (x5_1 : List Int) (x24_1 : Int), v24 = .int .i64 x24_1 ∧ Aside0 (impl_cornersOf.l0 kq a0 (a0.size : Int) x4_1 x5_1 t129 (t129.length : Int) x24_1 = some r) ∧ Aside0 (kq ≤ k) ∧ Aside0 (Kd.R (Kd.int .i64) 3 w' w.heap.size (fun k_ => some k_ ≠ (v127 : Value).ownBlock ∧ some k_ ≠ ((.slice Ao13 t129.length co13) : Value).ownBlock) v124 x4_1) ∧ Aside0 (Kd.R (Kd.int .i64) 3 w' w.heap.size (fun k_ => some k_ ≠ (v124 : Value).ownBlock ∧ some k_ ≠ ((.slice Ao13 t129.length co13) : Value).ownBlock) v127 x5_1) ∧ Aside0 (Kd.R (Kd.int .i64) 3 w' w.heap.size (fun k_ => some k_ ≠ (v124 : Value).ownBlock ∧ some k_ ≠ (v127 : Value).ownBlock) (.slice Ao13 t129.length co13) t129) ∧ Aside0 (Below w.heap.size w w'))
   case atStart => exact ⟨(y123), (y126), (0), zt, H', ⟨Nat.le_refl _⟩, ⟨zR_ HO125⟩, ⟨zR_ HO128⟩, ⟨zmR HO131 (fun _ hk => ⟨hk.1.2, hk.2⟩)⟩, ⟨zB_ HB⟩⟩
   case round =>
    clear H'; (try clear p2); (try clear c3); (try clear c3b0); (try clear c3b1); (try clear c4); (try clear c4b0); (try clear c4b1); (try clear p6); (try clear c8); obtain ⟨x4_1, x5_1, x24_1, rfl, HA, HK1, HO_4, HO_5, HO_22, HB⟩ := hrel
    cases gk with
    | zero => exact absurd HA.out (by simp [impl_cornersOf.l0])
    | succ k1 =>
     have H := HA.out; clear HA; simp only [impl_cornersOf.l0] at H
     by_cases c14 : x24_1 < (t129.length : Int)
     ·rw [if_pos c14] at H
      have c14b0 := dT c14; clear c14
      by_cases c15 : 0 ≤ x24_1
      ·rw [if_pos c15] at H
       have c15b0 := dT c15; clear c15
       by_cases c16 : x24_1 < (t129.length : Int)
       ·rw [if_pos c16] at H
        have c16b0 := dT c16; clear c16
        by_cases c17 : (a0.size : Int) = 0
        ·rw [if_pos c17] at H
         exact absurd H (by simp)
        rw [if_neg c17] at H
        have c17b0 : ((a0.size : Int) == 0) = false := beq_eq_false_iff_ne.mpr c17
        have c17b1 : ((a0.size : Int) != 0) = true := bne_iff_ne.mpr c17
        have c17b2 : ¬ (a0 = ByteArray.empty) := fun h_ => c17 (by rw [h_]; rfl)
        obtain ⟨ji18, hji18⟩ : ∃ j_ : Int, (wrap64 ((wrap64 (2 * x24_1)) + 1)) = j_ := ⟨_, rfl⟩
        replace H : (if 0 ≤ (ji18) then (if (ji18) < (x4_1.length : Int) then (if 0 ≤ (wrap64 (2 * (Int.tmod (wrap64 (x24_1 + 1)) (a0.size : Int)))) then (if (wrap64 (2 * (Int.tmod (wrap64 (x24_1 + 1)) (a0.size : Int)))) < (x4_1.length : Int) then ((some ((x4_1.set ((ji18) : Int).toNat (wrap64 (2 * (Int.tmod (wrap64 (x24_1 + 1)) (a0.size : Int))))).set ((wrap64 (2 * (Int.tmod (wrap64 (x24_1 + 1)) (a0.size : Int)))) : Int).toNat (ji18) : List Int)).bind fun y134 => (if x24_1 < (a0.size : Int) then (if 0 ≤ (rd t129 x24_1) then (if (rd t129 x24_1) < (a0.size : Int) then (if (bt a0 x24_1) = (bt a0 (rd t129 x24_1)) then (if 0 ≤ (wrap64 (2 * x24_1)) then (if (wrap64 (2 * x24_1)) < (x5_1.length : Int) then (if (ji18) < (x5_1.length : Int) then (impl_cornersOf.l0 k1 a0 (a0.size : Int) y134 ((x5_1.set ((wrap64 (2 * x24_1)) : Int).toNat (wrap64 (2 * (rd t129 x24_1)))).set ((ji18) : Int).toNat (wrap64 ((wrap64 (2 * (rd t129 x24_1))) + 1))) t129 (t129.length : Int) (wrap64 (x24_1 + 1))) else (none)) else (none)) else (none)) else (if 0 ≤ (wrap64 (2 * x24_1)) then (if (wrap64 (2 * x24_1)) < (x5_1.length : Int) then (if (ji18) < (x5_1.length : Int) then (impl_cornersOf.l0 k1 a0 (a0.size : Int) y134 ((x5_1.set ((wrap64 (2 * x24_1)) : Int).toNat (wrap64 ((wrap64 (2 * (rd t129 x24_1))) + 1))).set ((ji18) : Int).toNat (wrap64 (2 * (rd t129 x24_1)))) t129 (t129.length : Int) (wrap64 (x24_1 + 1))) else (none)) else (none)) else (none))) else (none)) else (none)) else (none))) else (none)) else (none)) else (none)) else (none)) = some r := by first | (rw [hji18] at H; exact H) | (simp only [hji18] at H ⊢; exact H)
        have hji18w : (IntKind.i64.wrap ((wrap64 (2 * x24_1)) + 1)) = ji18 := (i64_w _).trans hji18
        by_cases c19 : 0 ≤ (ji18)
        ·rw [if_pos c19] at H
         have c19b0 := dT c19; clear c19
         by_cases c20 : (ji18) < (x4_1.length : Int)
         ·rw [if_pos c20] at H
          have c20b0 := dT c20; clear c20
          obtain ⟨y133, hy133⟩ : ∃ y_ : List Int, y_ = (x4_1.set ((ji18) : Int).toNat (wrap64 (2 * (Int.tmod (wrap64 (x24_1 + 1)) (a0.size : Int))))) := ⟨_, rfl⟩
          replace H : (if 0 ≤ (wrap64 (2 * (Int.tmod (wrap64 (x24_1 + 1)) (a0.size : Int)))) then (if (wrap64 (2 * (Int.tmod (wrap64 (x24_1 + 1)) (a0.size : Int)))) < (x4_1.length : Int) then ((some (y133.set ((wrap64 (2 * (Int.tmod (wrap64 (x24_1 + 1)) (a0.size : Int)))) : Int).toNat (ji18) : List Int)).bind fun y134 => (if x24_1 < (a0.size : Int) then (if 0 ≤ (rd t129 x24_1) then (if (rd t129 x24_1) < (a0.size : Int) then (if (bt a0 x24_1) = (bt a0 (rd t129 x24_1)) then (if 0 ≤ (wrap64 (2 * x24_1)) then (if (wrap64 (2 * x24_1)) < (x5_1.length : Int) then (if (ji18) < (x5_1.length : Int) then (impl_cornersOf.l0 k1 a0 (a0.size : Int) y134 ((x5_1.set ((wrap64 (2 * x24_1)) : Int).toNat (wrap64 (2 * (rd t129 x24_1)))).set ((ji18) : Int).toNat (wrap64 ((wrap64 (2 * (rd t129 x24_1))) + 1))) t129 (t129.length : Int) (wrap64 (x24_1 + 1))) else (none)) else (none)) else (none)) else (if 0 ≤ (wrap64 (2 * x24_1)) then (if (wrap64 (2 * x24_1)) < (x5_1.length : Int) then (if (ji18) < (x5_1.length : Int) then (impl_cornersOf.l0 k1 a0 (a0.size : Int) y134 ((x5_1.set ((wrap64 (2 * x24_1)) : Int).toNat (wrap64 ((wrap64 (2 * (rd t129 x24_1))) + 1))).set ((ji18) : Int).toNat (wrap64 (2 * (rd t129 x24_1)))) t129 (t129.length : Int) (wrap64 (x24_1 + 1))) else (none)) else (none)) else (none))) else (none)) else (none)) else (none))) else (none)) else (none)) = some r := zH hy133 H
          have Ny133 := A0_ hy133; clear hy133
          obtain ⟨ji22, hji22⟩ : ∃ j_ : Int, (wrap64 (2 * (Int.tmod (wrap64 (x24_1 + 1)) (a0.size : Int)))) = j_ := ⟨_, rfl⟩
          replace H : (if 0 ≤ (ji22) then (if (ji22) < (x4_1.length : Int) then ((some (y133.set ((ji22) : Int).toNat (ji18) : List Int)).bind fun y134 => (if x24_1 < (a0.size : Int) then (if 0 ≤ (rd t129 x24_1) then (if (rd t129 x24_1) < (a0.size : Int) then (if (bt a0 x24_1) = (bt a0 (rd t129 x24_1)) then (if 0 ≤ (wrap64 (2 * x24_1)) then (if (wrap64 (2 * x24_1)) < (x5_1.length : Int) then (if (ji18) < (x5_1.length : Int) then (impl_cornersOf.l0 k1 a0 (a0.size : Int) y134 ((x5_1.set ((wrap64 (2 * x24_1)) : Int).toNat (wrap64 (2 * (rd t129 x24_1)))).set ((ji18) : Int).toNat (wrap64 ((wrap64 (2 * (rd t129 x24_1))) + 1))) t129 (t129.length : Int) (wrap64 (x24_1 + 1))) else (none)) else (none)) else (none)) else (if 0 ≤ (wrap64 (2 * x24_1)) then (if (wrap64 (2 * x24_1)) < (x5_1.length : Int) then (if (ji18) < (x5_1.length : Int) then (impl_cornersOf.l0 k1 a0 (a0.size : Int) y134 ((x5_1.set ((wrap64 (2 * x24_1)) : Int).toNat (wrap64 ((wrap64 (2 * (rd t129 x24_1))) + 1))).set ((ji18) : Int).toNat (wrap64 (2 * (rd t129 x24_1)))) t129 (t129.length : Int) (wrap64 (x24_1 + 1))) else (none)) else (none)) else (none))) else (none)) else (none)) else (none))) else (none)) else (none)) = some r := by first | (rw [hji22] at H; exact H) | (simp only [hji22] at H ⊢; exact H)
          (try rw [hji22] at Ny133)
          have hji22w : (IntKind.i64.wrap (2 * (Int.tmod (wrap64 (x24_1 + 1)) (a0.size : Int)))) = ji22 := (i64_w _).trans hji22
          by_cases c23 : 0 ≤ (ji22)
          ·rw [if_pos c23] at H
           have c23b0 := dT c23; clear c23
           by_cases c24 : (ji22) < (x4_1.length : Int)
           ·rw [if_pos c24] at H
            have c24b0 := dT c24; clear c24
            obtain ⟨y134, hy134⟩ : ∃ y_ : List Int, y_ = (y133.set ((ji22) : Int).toNat (ji18)) := ⟨_, rfl⟩
            replace H : (if x24_1 < (a0.size : Int) then (if 0 ≤ (rd t129 x24_1) then (if (rd t129 x24_1) < (a0.size : Int) then (if (bt a0 x24_1) = (bt a0 (rd t129 x24_1)) then (if 0 ≤ (wrap64 (2 * x24_1)) then (if (wrap64 (2 * x24_1)) < (x5_1.length : Int) then (if (ji18) < (x5_1.length : Int) then (impl_cornersOf.l0 k1 a0 (a0.size : Int) y134 ((x5_1.set ((wrap64 (2 * x24_1)) : Int).toNat (wrap64 (2 * (rd t129 x24_1)))).set ((ji18) : Int).toNat (wrap64 ((wrap64 (2 * (rd t129 x24_1))) + 1))) t129 (t129.length : Int) (wrap64 (x24_1 + 1))) else (none)) else (none)) else (none)) else (if 0 ≤ (wrap64 (2 * x24_1)) then (if (wrap64 (2 * x24_1)) < (x5_1.length : Int) then (if (ji18) < (x5_1.length : Int) then (impl_cornersOf.l0 k1 a0 (a0.size : Int) y134 ((x5_1.set ((wrap64 (2 * x24_1)) : Int).toNat (wrap64 ((wrap64 (2 * (rd t129 x24_1))) + 1))).set ((ji18) : Int).toNat (wrap64 (2 * (rd t129 x24_1)))) t129 (t129.length : Int) (wrap64 (x24_1 + 1))) else (none)) else (none)) else (none))) else (none)) else (none)) else (none)) = some r := zH hy134 H
            have Ny134 := A0_ hy134; clear hy134
            by_cases c26 : x24_1 < (a0.size : Int)
            ·rw [if_pos c26] at H
             have c26b0 := dT c26; clear c26
             by_cases c28 : 0 ≤ (rd t129 x24_1)
             ·rw [if_pos c28] at H
              have c28b0 := dT c28; clear c28
              by_cases c29 : (rd t129 x24_1) < (a0.size : Int)
              ·rw [if_pos c29] at H
               have c29b0 := dT c29; clear c29
               by_cases c31 : (bt a0 x24_1) = (bt a0 (rd t129 x24_1))
               ·rw [if_pos c31] at H
                have c31b0 : ((bt a0 x24_1) == (bt a0 (rd t129 x24_1))) = true := beq_iff_eq.mpr c31
                have c31b1 : ((bt a0 x24_1) != (bt a0 (rd t129 x24_1))) = false := bne_eq_false_iff_eq.mpr c31
                clear c31
                obtain ⟨ji32, hji32⟩ : ∃ j_ : Int, (wrap64 (2 * x24_1)) = j_ := ⟨_, rfl⟩
                replace H : (if 0 ≤ (ji32) then (if (ji32) < (x5_1.length : Int) then (if (ji18) < (x5_1.length : Int) then (impl_cornersOf.l0 k1 a0 (a0.size : Int) y134 ((x5_1.set ((ji32) : Int).toNat (wrap64 (2 * (rd t129 x24_1)))).set ((ji18) : Int).toNat (wrap64 ((wrap64 (2 * (rd t129 x24_1))) + 1))) t129 (t129.length : Int) (wrap64 (x24_1 + 1))) else (none)) else (none)) else (none)) = some r := by first | (rw [hji32] at H; exact H) | (simp only [hji32] at H ⊢; exact H)
                (try rw [hji32] at hji18)
                (try rw [hji32] at hji18w)
                have hji32w : (IntKind.i64.wrap (2 * x24_1)) = ji32 := (i64_w _).trans hji32
                by_cases c33 : 0 ≤ (ji32)
                ·rw [if_pos c33] at H
                 have c33b0 := dT c33; clear c33
                 by_cases c34 : (ji32) < (x5_1.length : Int)
                 ·rw [if_pos c34] at H
                  have c34b0 := dT c34; clear c34
                  obtain ⟨y135, hy135⟩ : ∃ y_ : List Int, y_ = (x5_1.set ((ji32) : Int).toNat (wrap64 (2 * (rd t129 x24_1)))) := ⟨_, rfl⟩
                  replace H : (if (ji18) < (x5_1.length : Int) then (impl_cornersOf.l0 k1 a0 (a0.size : Int) y134 (y135.set ((ji18) : Int).toNat (wrap64 ((wrap64 (2 * (rd t129 x24_1))) + 1))) t129 (t129.length : Int) (wrap64 (x24_1 + 1))) else (none)) = some r := zH hy135 H
                  have Ny135 := A0_ hy135; clear hy135
                  by_cases c36 : (ji18) < (x5_1.length : Int)
                  ·rw [if_pos c36] at H
                   have c36b0 := dT c36; clear c36
                   obtain ⟨y136, hy136⟩ : ∃ y_ : List Int, y_ = (y135.set ((ji18) : Int).toNat (wrap64 ((wrap64 (2 * (rd t129 x24_1))) + 1))) := ⟨_, rfl⟩
                   replace H : (impl_cornersOf.l0 k1 a0 (a0.size : Int) y134 y136 t129 (t129.length : Int) (wrap64 (x24_1 + 1))) = some r := zH hy136 H
                   have Ny136 := A0_ hy136; clear hy136; have H' := A0_ H; clear H
                   have p132 : 0 ≤ (x24_1 : Int) := zd
                   have q132 : x24_1 < (t129.length : Int) := zd
                   obtain ⟨ad132, e132, hx132_0⟩ := tI (rR HO_22.out).2.2 x24_1 p132 q132
                   cases e132
                   replace p132 := eq_true p132; replace q132 := eq_true q132
                   try go_wp2
                   replace HO_4 := A0_ (rD HO_4.out)
                   replace HO_5 := A0_ (rD HO_5.out)
                   replace HO_22 := A0_ (rD HO_22.out)
                   replace HB := A0_ (bD HB.out)
                   refine start_ (n := 10) (S := fun w' => True) (ds := []) #[false, false, false, false, false, false, false, false, false, false] (by kernel_rfl) rfl rfl trivial (fun hHeld => ?_); refine with_tabW impl_cornersOf.tab6 impl_cornersOf.bits6 (fun HT_ HW_ => ?_)
                   generalize wr.drew = w38 at HO_4 HO_5 HO_22 HB hHeld ⊢
                   refine zP 0 (some 29) #[true,false,false,false,false,false,false,false,false,false] ?_
                   refine zP 1 (some 30) #[true,true,false,false,false,false,false,false,false,false] ?_
                   refine zP 2 (some 31) #[true,true,true,false,false,false,false,false,false,false] ?_
                   refine zP 3 (some 32) #[true,true,true,true,false,false,false,false,false,false] ?_
                   refine zP 4 (some 33) #[true,true,true,true,true,false,false,false,false,false] ?_
                   refine zP 5 (some 34) #[true,true,true,true,true,true,false,false,false,false] ?_
                   refine zP 6 (some 35) #[true,true,true,true,true,true,true,false,false,false] ?_
                   refine zP 7 (some 36) #[true,true,true,true,true,true,true,true,false,false] ?_
                   refine zP 8 (some 8) #[true,true,true,true,true,true,true,true,true,false] ?_
                   refine zP 9 (some 9) #[true,true,true,true,true,true,true,true,true,true] ?_
                   refine done_ (done_of HT_.out (by kernel_rfl)) ?_
                   have p21 : 0 ≤ ((ji18) : Int) := zd
                   have q21 : ((ji18) : Int) < ((x4_1.length : Int) : Int) := zd
                   obtain ⟨go21, co21, eo21, gb21, gl21, cl21, HG21⟩ := Kd.R_form HO_4.out (by omega)
                   (first | cases eo21 | (injection eo21 with ea_ en_ ec_; (first | subst ea_ | (injection ea_ with ea_; subst ea_)); subst ec_; clear en_))
                   have GB21 := A0_ gb21; have GG21 := A0_ HG21; clear gb21 gl21 HG21
                   obtain ⟨hx21_0, hf21_0⟩ := Kd.R_celln 0 HO_4.out ((ji18) : Int) p21 q21
                   replace p21 := eq_true p21; replace q21 := eq_true q21
                   obtain ⟨hy39_, hz39_⟩ := Kd.R_celln 0 HO_4.out ((ji18) : Int) (zd) (zd)
                   have HP39 := Kd.R_putg HO_4.out ((ji18) : Int) ji22
                   try go_wp2_with (first | ((with_reducible refine gS (t := 3) (p := 43) rfl ?_); refine store_event (t := 3) (p := 43) (v := ?vo_w40) (w1 := (w38.setCell ⟨go21, ((ji18) : Int).toNat, none⟩ (.int .i64 ji22))) ?hg ?ho ?hn ?hr ?_; (case ho => rfl); (case hg => rfl); (case hn => rfl); (case hr => first | (go_simp; done) | (go_simp; rfl)); intro w40 hw; have hg : w38.grownBy w40 (some go21) := (by rw [hw]; exact HP39.2); have hp_ : Kd.R (Kd.int .i64) 3 w40 w.heap.size (fun k_ => some k_ ≠ (v127 : Value).ownBlock ∧ some k_ ≠ (.slice (some ad132) t129.length co13 : Value).ownBlock) (.slice (some ⟨go21, 0, none⟩) x4_1.length co21) y133 := (by rw [hw, Ny133.out]; exact HP39.1); clear HP39; replace HO_4 := A0_ (hp_); replace HO_5 := A0_ (Kd.R_after (v := (.slice (some ⟨go21, 0, none⟩) x4_1.length co21)) (v1 := (.slice (some ⟨go21, 0, none⟩) x4_1.length co21)) (ok := (fun k_ => some k_ ≠ (.slice (some ad132) t129.length co13 : Value).ownBlock)) (zmR HO_5 (fun _ hk => ⟨hk.2, hk.1⟩)) hg (.inl rfl)); replace HO_22 := A0_ (Kd.R_after (v := (.slice (some ⟨go21, 0, none⟩) x4_1.length co21)) (v1 := (.slice (some ⟨go21, 0, none⟩) x4_1.length co21)) (ok := (fun k_ => some k_ ≠ (v127 : Value).ownBlock)) (zmR HO_22 (fun _ hk => ⟨hk.2, hk.1⟩)) hg (.inl rfl)); replace HB := A0_ ((by rw [hw]; exact bS (HB.out) GB21.out : Below w.heap.size w w40)); clear hg hw hp_; have p25 : 0 ≤ ((ji22) : Int) := zd; have q25 : ((ji22) : Int) < ((x4_1.length : Int) : Int) := zd; obtain ⟨hx25_0, hf25_0⟩ := Kd.R_celln 0 HO_4.out ((ji22) : Int) p25 q25; replace p25 := eq_true p25; replace q25 := eq_true q25; obtain ⟨hy41_, hz41_⟩ := Kd.R_celln 0 HO_4.out ((ji22) : Int) (zd) (zd); have HP41 := Kd.R_putg HO_4.out ((ji22) : Int) ji18) | ((with_reducible refine gS (t := 3) (p := 44) rfl ?_); refine store_event (t := 3) (p := 44) (v := ?vo_w42) (w1 := (w40.setCell ⟨go21, ((ji22) : Int).toNat, none⟩ (.int .i64 ji18))) ?hg ?ho ?hn ?hr ?_; (case ho => rfl); (case hg => rfl); (case hn => rfl); (case hr => first | (go_simp; done) | (go_simp; rfl)); intro w42 hw; have hg : w40.grownBy w42 (some go21) := (by rw [hw]; exact HP41.2); have hp_ : Kd.R (Kd.int .i64) 3 w42 w.heap.size (fun k_ => some k_ ≠ (v127 : Value).ownBlock ∧ some k_ ≠ (.slice (some ad132) t129.length co13 : Value).ownBlock) (.slice (some ⟨go21, 0, none⟩) x4_1.length co21) y134 := (by rw [hw, Ny134.out]; exact HP41.1); clear HP41; replace HO_4 := A0_ (hp_); replace HO_5 := A0_ (Kd.R_after (v := (.slice (some ⟨go21, 0, none⟩) x4_1.length co21)) (v1 := (.slice (some ⟨go21, 0, none⟩) x4_1.length co21)) (ok := (fun k_ => some k_ ≠ (.slice (some ad132) t129.length co13 : Value).ownBlock)) (zR_ HO_5) hg (.inl rfl)); replace HO_22 := A0_ (Kd.R_after (v := (.slice (some ⟨go21, 0, none⟩) x4_1.length co21)) (v1 := (.slice (some ⟨go21, 0, none⟩) x4_1.length co21)) (ok := (fun k_ => some k_ ≠ (v127 : Value).ownBlock)) (zR_ HO_22) hg (.inl rfl)); replace HB := A0_ ((by rw [hw]; exact bS (HB.out) GB21.out : Below w.heap.size w w42)); clear hg hw hp_))
                   replace HO_4 := A0_ (rD HO_4.out)
                   replace HO_5 := A0_ (rD HO_5.out)
                   replace HO_22 := A0_ (rD HO_22.out)
                   replace HB := A0_ (bD HB.out)
                   have p27 : 0 ≤ (x24_1 : Int) := zd
                   have q27 : x24_1 < (a0.size : Int) := zd
                   have hx27 := bt_at a0 x24_1; replace p27 := eq_true p27; replace q27 := eq_true q27
                   have p30 : 0 ≤ ((rd t129 x24_1) : Int) := zd
                   have q30 : (rd t129 x24_1) < (a0.size : Int) := zd
                   have hx30 := bt_at a0 (rd t129 x24_1)
                   replace p30 := eq_true p30; replace q30 := eq_true q30
                   refine start_ (n := 7) (S := fun w' => True) (ds := []) #[false, false, false, false, false, false, false] (by kernel_rfl) rfl rfl trivial (fun hHeld => ?_)
                   generalize w42.drew = w43 at HO_4 HO_5 HO_22 HB hHeld ⊢
                   refine pure_ (i := 0) (N := some 45) (v := ?_) (a' := ?_) #[true, false, false, false, false, false, false] rfl rfl (by kernel_rfl) (fun _ _ _ h => h) (Or.inl ⟨by rfl, ?_⟩) ?_ ?_
                   rotate_left
                   ·intro w'
                    go_simp
                    with_reducible rfl
                   rotate_left
                   ·simp only [Act.put, List.setIfInBounds_toArray, List.set_cons_zero, List.set_cons_succ, i64_w, i32_w]
                    rfl
                   refine pure_ (i := 1) (N := some 46) (v := ?_) (a' := ?_) #[true, true, false, false, false, false, false] rfl rfl (by kernel_rfl) (fun _ _ _ h => h) (Or.inl ⟨by rfl, ?_⟩) ?_ ?_
                   rotate_left
                   ·intro w'
                    go_simp
                    with_reducible rfl
                   rotate_left
                   ·simp only [Act.put, List.setIfInBounds_toArray, List.set_cons_zero, List.set_cons_succ, i64_w, i32_w]
                    rfl
                   refine pure_ (i := 3) (N := some 48) (v := ?_) (a' := ?_) #[true, true, false, true, false, false, false] rfl rfl (by kernel_rfl) (fun _ _ _ h => h) (Or.inl ⟨by rfl, ?_⟩) ?_ ?_
                   rotate_left
                   ·intro w'
                    go_simp
                    with_reducible rfl
                   rotate_left
                   ·simp only [Act.put, List.setIfInBounds_toArray, List.set_cons_zero, List.set_cons_succ, i64_w, i32_w]
                    rfl
                   refine pure_ (i := 4) (N := some 49) (v := ?_) (a' := ?_) #[true, true, false, true, true, false, false] rfl rfl (by kernel_rfl) (fun _ _ _ h => h) (Or.inl ⟨by rfl, ?_⟩) ?_ ?_
                   rotate_left
                   ·intro w'
                    go_simp
                    with_reducible rfl
                   rotate_left
                   ·simp only [Act.put, List.setIfInBounds_toArray, List.set_cons_zero, List.set_cons_succ, i64_w, i32_w]
                    rfl
                   refine take_ (i := 2) (N := some 47) (v := ?_) (a' := ?_) #[true, true, true, true, true, false, false] rfl rfl (by kernel_rfl) (fun _ _ _ h => h) (Or.inl ⟨by rfl, ?_⟩) hHeld ?_ ?_
                   rotate_left
                   ·intro w' _
                    go_simp
                    with_reducible rfl
                   rotate_left
                   ·simp only [Act.put, List.setIfInBounds_toArray, List.set_cons_zero, List.set_cons_succ, i64_w, i32_w]
                    rfl
                   refine take_ (i := 5) (N := some 50) (v := ?_) (a' := ?_) #[true, true, true, true, true, true, false] rfl rfl (by kernel_rfl) (fun _ _ _ h => h) (Or.inl ⟨by rfl, ?_⟩) hHeld ?_ ?_
                   rotate_left
                   ·intro w' _
                    go_simp
                    with_reducible rfl
                   rotate_left
                   ·simp only [Act.put, List.setIfInBounds_toArray, List.set_cons_zero, List.set_cons_succ, i64_w, i32_w]
                    rfl
                   refine pure_ (i := 6) (N := some 51) (v := ?_) (a' := ?_) #[true, true, true, true, true, true, true] rfl rfl (by kernel_rfl) (fun _ _ _ h => h) (Or.inl ⟨by rfl, ?_⟩) ?_ ?_
                   rotate_left
                   ·intro w'
                    go_simp
                    with_reducible rfl
                   rotate_left
                   ·simp only [Act.put, List.setIfInBounds_toArray, List.set_cons_zero, List.set_cons_succ, i64_w, i32_w]
                    rfl
                   refine done_ (by kernel_rfl) ?_
                   have p35 : 0 ≤ ((ji32) : Int) := zd
                   have q35 : ((ji32) : Int) < ((x5_1.length : Int) : Int) := zd
                   obtain ⟨go35, co35, eo35, gb35, gl35, cl35, HG35⟩ := Kd.R_form HO_5.out (by omega)
                   (first | cases eo35 | (injection eo35 with ea_ en_ ec_; (first | subst ea_ | (injection ea_ with ea_; subst ea_)); subst ec_; clear en_))
                   have GB35 := A0_ gb35; have GG35 := A0_ HG35; clear gb35 gl35 HG35
                   obtain ⟨hx35_0, hf35_0⟩ := Kd.R_celln 0 HO_5.out ((ji32) : Int) p35 q35
                   replace p35 := eq_true p35; replace q35 := eq_true q35
                   obtain ⟨hy44_, hz44_⟩ := Kd.R_celln 0 HO_5.out ((ji32) : Int) (zd) (zd)
                   have HP44 := Kd.R_putg HO_5.out ((ji32) : Int) (wrap64 (2 * (rd t129 x24_1)))
                   try go_wp2_with (first | ((with_reducible refine gS (t := 3) (p := 62) rfl ?_); refine store_event (t := 3) (p := 62) (v := ?vo_w45) (w1 := (w43.setCell ⟨go35, ((ji32) : Int).toNat, none⟩ (.int .i64 (wrap64 (2 * (rd t129 x24_1)))))) ?hg ?ho ?hn ?hr ?_; (case ho => rfl); (case hg => rfl); (case hn => rfl); (case hr => first | (go_simp; done) | (go_simp; rfl)); intro w45 hw; have hg : w43.grownBy w45 (some go35) := (by rw [hw]; exact HP44.2); have hp_ : Kd.R (Kd.int .i64) 3 w45 w.heap.size (fun k_ => some k_ ≠ (.slice (some ad132) t129.length co13 : Value).ownBlock ∧ some k_ ≠ (.slice (some ⟨go21, 0, none⟩) x4_1.length co21 : Value).ownBlock) (.slice (some ⟨go35, 0, none⟩) x5_1.length co35) y135 := (by rw [hw, Ny135.out]; exact HP44.1); clear HP44; replace HO_4 := A0_ (Kd.R_after (v := (.slice (some ⟨go35, 0, none⟩) x5_1.length co35)) (v1 := (.slice (some ⟨go35, 0, none⟩) x5_1.length co35)) (ok := (fun k_ => some k_ ≠ (.slice (some ad132) t129.length co13 : Value).ownBlock)) (zmR HO_4 (fun _ hk => ⟨hk.2, hk.1⟩)) hg (.inl rfl)); replace HO_5 := A0_ (hp_); replace HO_22 := A0_ (Kd.R_after (v := (.slice (some ⟨go35, 0, none⟩) x5_1.length co35)) (v1 := (.slice (some ⟨go35, 0, none⟩) x5_1.length co35)) (ok := (fun k_ => some k_ ≠ (.slice (some ⟨go21, 0, none⟩) x4_1.length co21 : Value).ownBlock)) (zmR HO_22 (fun _ hk => ⟨hk.2, hk.1⟩)) hg (.inl rfl)); replace HB := A0_ ((by rw [hw]; exact bS (HB.out) GB35.out : Below w.heap.size w w45)); clear hg hw hp_; have p37 : 0 ≤ ((ji18) : Int) := zd; have q37 : ((ji18) : Int) < ((x5_1.length : Int) : Int) := zd; obtain ⟨hx37_0, hf37_0⟩ := Kd.R_celln 0 HO_5.out ((ji18) : Int) p37 q37; replace p37 := eq_true p37; replace q37 := eq_true q37; obtain ⟨hy46_, hz46_⟩ := Kd.R_celln 0 HO_5.out ((ji18) : Int) (zd) (zd); have HP46 := Kd.R_putg HO_5.out ((ji18) : Int) (wrap64 ((wrap64 (2 * (rd t129 x24_1))) + 1))) | ((with_reducible refine gS (t := 3) (p := 63) rfl ?_); refine store_event (t := 3) (p := 63) (v := ?vo_w47) (w1 := (w45.setCell ⟨go35, ((ji18) : Int).toNat, none⟩ (.int .i64 (wrap64 ((wrap64 (2 * (rd t129 x24_1))) + 1))))) ?hg ?ho ?hn ?hr ?_; (case ho => rfl); (case hg => rfl); (case hn => rfl); (case hr => first | (go_simp; done) | (go_simp; rfl)); intro w47 hw; have hg : w45.grownBy w47 (some go35) := (by rw [hw]; exact HP46.2); have hp_ : Kd.R (Kd.int .i64) 3 w47 w.heap.size (fun k_ => some k_ ≠ (.slice (some ad132) t129.length co13 : Value).ownBlock ∧ some k_ ≠ (.slice (some ⟨go21, 0, none⟩) x4_1.length co21 : Value).ownBlock) (.slice (some ⟨go35, 0, none⟩) x5_1.length co35) y136 := (by rw [hw, Ny136.out]; exact HP46.1); clear HP46; replace HO_4 := A0_ (Kd.R_after (v := (.slice (some ⟨go35, 0, none⟩) x5_1.length co35)) (v1 := (.slice (some ⟨go35, 0, none⟩) x5_1.length co35)) (ok := (fun k_ => some k_ ≠ (.slice (some ad132) t129.length co13 : Value).ownBlock)) (zR_ HO_4) hg (.inl rfl)); replace HO_5 := A0_ (hp_); replace HO_22 := A0_ (Kd.R_after (v := (.slice (some ⟨go35, 0, none⟩) x5_1.length co35)) (v1 := (.slice (some ⟨go35, 0, none⟩) x5_1.length co35)) (ok := (fun k_ => some k_ ≠ (.slice (some ⟨go21, 0, none⟩) x4_1.length co21 : Value).ownBlock)) (zR_ HO_22) hg (.inl rfl)); replace HB := A0_ ((by rw [hw]; exact bS (HB.out) GB35.out : Below w.heap.size w w47)); clear hg hw hp_))
                   go_roundg k1
                   case measure => have := HK1.out; omega
                   case rel => exact ⟨(y134), (y136), (wrap64 (x24_1 + 1)), zt, H', ⟨by have := HK1.out; omega⟩, ⟨zmR HO_4 (fun _ hk => ⟨hk.2, hk.1⟩)⟩, ⟨zmR HO_5 (fun _ hk => ⟨hk.2, hk.1⟩)⟩, ⟨zR_ HO_22⟩, ⟨zB_ HB⟩⟩
                  rw [if_neg c36] at H
                  exact absurd H (by simp)
                 rw [if_neg c34] at H
                 exact absurd H (by simp)
                rw [if_neg c33] at H
                exact absurd H (by simp)
               rw [if_neg c31] at H
               have c31b0 : ((bt a0 x24_1) == (bt a0 (rd t129 x24_1))) = false := beq_eq_false_iff_ne.mpr c31
               have c31b1 : ((bt a0 x24_1) != (bt a0 (rd t129 x24_1))) = true := bne_iff_ne.mpr c31
               obtain ⟨ji48, hji48⟩ : ∃ j_ : Int, (wrap64 (2 * x24_1)) = j_ := ⟨_, rfl⟩
               replace H : (if 0 ≤ (ji48) then (if (ji48) < (x5_1.length : Int) then (if (ji18) < (x5_1.length : Int) then (impl_cornersOf.l0 k1 a0 (a0.size : Int) y134 ((x5_1.set ((ji48) : Int).toNat (wrap64 ((wrap64 (2 * (rd t129 x24_1))) + 1))).set ((ji18) : Int).toNat (wrap64 (2 * (rd t129 x24_1)))) t129 (t129.length : Int) (wrap64 (x24_1 + 1))) else (none)) else (none)) else (none)) = some r := by first | (rw [hji48] at H; exact H) | (simp only [hji48] at H ⊢; exact H)
               (try rw [hji48] at hji18)
               (try rw [hji48] at hji18w)
               have hji48w : (IntKind.i64.wrap (2 * x24_1)) = ji48 := (i64_w _).trans hji48
               by_cases c49 : 0 ≤ (ji48)
               ·rw [if_pos c49] at H
                have c49b0 := dT c49; clear c49
                by_cases c50 : (ji48) < (x5_1.length : Int)
                ·rw [if_pos c50] at H
                 have c50b0 := dT c50; clear c50
                 obtain ⟨y137, hy137⟩ : ∃ y_ : List Int, y_ = (x5_1.set ((ji48) : Int).toNat (wrap64 ((wrap64 (2 * (rd t129 x24_1))) + 1))) := ⟨_, rfl⟩
                 replace H : (if (ji18) < (x5_1.length : Int) then (impl_cornersOf.l0 k1 a0 (a0.size : Int) y134 (y137.set ((ji18) : Int).toNat (wrap64 (2 * (rd t129 x24_1)))) t129 (t129.length : Int) (wrap64 (x24_1 + 1))) else (none)) = some r := zH hy137 H
                 have Ny137 := A0_ hy137; clear hy137
                 by_cases c52 : (ji18) < (x5_1.length : Int)
                 ·rw [if_pos c52] at H
                  have c52b0 := dT c52; clear c52
                  obtain ⟨y138, hy138⟩ : ∃ y_ : List Int, y_ = (y137.set ((ji18) : Int).toNat (wrap64 (2 * (rd t129 x24_1)))) := ⟨_, rfl⟩
                  replace H : (impl_cornersOf.l0 k1 a0 (a0.size : Int) y134 y138 t129 (t129.length : Int) (wrap64 (x24_1 + 1))) = some r := zH hy138 H
                  have Ny138 := A0_ hy138; clear hy138; have H' := A0_ H; clear H
                  have p132 : 0 ≤ (x24_1 : Int) := zd
                  have q132 : x24_1 < (t129.length : Int) := zd
                  obtain ⟨ad132, e132, hx132_0⟩ := tI (rR HO_22.out).2.2 x24_1 p132 q132
                  cases e132
                  replace p132 := eq_true p132; replace q132 := eq_true q132
                  try go_wp2
                  replace HO_4 := A0_ (rD HO_4.out)
                  replace HO_5 := A0_ (rD HO_5.out)
                  replace HO_22 := A0_ (rD HO_22.out)
                  replace HB := A0_ (bD HB.out)
                  refine start_ (n := 10) (S := fun w' => True) (ds := []) #[false, false, false, false, false, false, false, false, false, false] (by kernel_rfl) rfl rfl trivial (fun hHeld => ?_); refine with_tabW impl_cornersOf.tab6 impl_cornersOf.bits6 (fun HT_ HW_ => ?_)
                  generalize wr.drew = w54 at HO_4 HO_5 HO_22 HB hHeld ⊢
                  refine zP 0 (some 29) #[true,false,false,false,false,false,false,false,false,false] ?_
                  refine zP 1 (some 30) #[true,true,false,false,false,false,false,false,false,false] ?_
                  refine zP 2 (some 31) #[true,true,true,false,false,false,false,false,false,false] ?_
                  refine zP 3 (some 32) #[true,true,true,true,false,false,false,false,false,false] ?_
                  refine zP 4 (some 33) #[true,true,true,true,true,false,false,false,false,false] ?_
                  refine zP 5 (some 34) #[true,true,true,true,true,true,false,false,false,false] ?_
                  refine zP 6 (some 35) #[true,true,true,true,true,true,true,false,false,false] ?_
                  refine zP 7 (some 36) #[true,true,true,true,true,true,true,true,false,false] ?_
                  refine zP 8 (some 8) #[true,true,true,true,true,true,true,true,true,false] ?_
                  refine zP 9 (some 9) #[true,true,true,true,true,true,true,true,true,true] ?_
                  refine done_ (done_of HT_.out (by kernel_rfl)) ?_
                  have p21 : 0 ≤ ((ji18) : Int) := zd
                  have q21 : ((ji18) : Int) < ((x4_1.length : Int) : Int) := zd
                  obtain ⟨go21, co21, eo21, gb21, gl21, cl21, HG21⟩ := Kd.R_form HO_4.out (by omega)
                  (first | cases eo21 | (injection eo21 with ea_ en_ ec_; (first | subst ea_ | (injection ea_ with ea_; subst ea_)); subst ec_; clear en_))
                  have GB21 := A0_ gb21; have GG21 := A0_ HG21; clear gb21 gl21 HG21
                  obtain ⟨hx21_0, hf21_0⟩ := Kd.R_celln 0 HO_4.out ((ji18) : Int) p21 q21
                  replace p21 := eq_true p21; replace q21 := eq_true q21
                  obtain ⟨hy55_, hz55_⟩ := Kd.R_celln 0 HO_4.out ((ji18) : Int) (zd) (zd)
                  have HP55 := Kd.R_putg HO_4.out ((ji18) : Int) ji22
                  try go_wp2_with (first | ((with_reducible refine gS (t := 3) (p := 43) rfl ?_); refine store_event (t := 3) (p := 43) (v := ?vo_w56) (w1 := (w54.setCell ⟨go21, ((ji18) : Int).toNat, none⟩ (.int .i64 ji22))) ?hg ?ho ?hn ?hr ?_; (case ho => rfl); (case hg => rfl); (case hn => rfl); (case hr => first | (go_simp; done) | (go_simp; rfl)); intro w56 hw; have hg : w54.grownBy w56 (some go21) := (by rw [hw]; exact HP55.2); have hp_ : Kd.R (Kd.int .i64) 3 w56 w.heap.size (fun k_ => some k_ ≠ (v127 : Value).ownBlock ∧ some k_ ≠ (.slice (some ad132) t129.length co13 : Value).ownBlock) (.slice (some ⟨go21, 0, none⟩) x4_1.length co21) y133 := (by rw [hw, Ny133.out]; exact HP55.1); clear HP55; replace HO_4 := A0_ (hp_); replace HO_5 := A0_ (Kd.R_after (v := (.slice (some ⟨go21, 0, none⟩) x4_1.length co21)) (v1 := (.slice (some ⟨go21, 0, none⟩) x4_1.length co21)) (ok := (fun k_ => some k_ ≠ (.slice (some ad132) t129.length co13 : Value).ownBlock)) (zmR HO_5 (fun _ hk => ⟨hk.2, hk.1⟩)) hg (.inl rfl)); replace HO_22 := A0_ (Kd.R_after (v := (.slice (some ⟨go21, 0, none⟩) x4_1.length co21)) (v1 := (.slice (some ⟨go21, 0, none⟩) x4_1.length co21)) (ok := (fun k_ => some k_ ≠ (v127 : Value).ownBlock)) (zmR HO_22 (fun _ hk => ⟨hk.2, hk.1⟩)) hg (.inl rfl)); replace HB := A0_ ((by rw [hw]; exact bS (HB.out) GB21.out : Below w.heap.size w w56)); clear hg hw hp_; have p25 : 0 ≤ ((ji22) : Int) := zd; have q25 : ((ji22) : Int) < ((x4_1.length : Int) : Int) := zd; obtain ⟨hx25_0, hf25_0⟩ := Kd.R_celln 0 HO_4.out ((ji22) : Int) p25 q25; replace p25 := eq_true p25; replace q25 := eq_true q25; obtain ⟨hy57_, hz57_⟩ := Kd.R_celln 0 HO_4.out ((ji22) : Int) (zd) (zd); have HP57 := Kd.R_putg HO_4.out ((ji22) : Int) ji18) | ((with_reducible refine gS (t := 3) (p := 44) rfl ?_); refine store_event (t := 3) (p := 44) (v := ?vo_w58) (w1 := (w56.setCell ⟨go21, ((ji22) : Int).toNat, none⟩ (.int .i64 ji18))) ?hg ?ho ?hn ?hr ?_; (case ho => rfl); (case hg => rfl); (case hn => rfl); (case hr => first | (go_simp; done) | (go_simp; rfl)); intro w58 hw; have hg : w56.grownBy w58 (some go21) := (by rw [hw]; exact HP57.2); have hp_ : Kd.R (Kd.int .i64) 3 w58 w.heap.size (fun k_ => some k_ ≠ (v127 : Value).ownBlock ∧ some k_ ≠ (.slice (some ad132) t129.length co13 : Value).ownBlock) (.slice (some ⟨go21, 0, none⟩) x4_1.length co21) y134 := (by rw [hw, Ny134.out]; exact HP57.1); clear HP57; replace HO_4 := A0_ (hp_); replace HO_5 := A0_ (Kd.R_after (v := (.slice (some ⟨go21, 0, none⟩) x4_1.length co21)) (v1 := (.slice (some ⟨go21, 0, none⟩) x4_1.length co21)) (ok := (fun k_ => some k_ ≠ (.slice (some ad132) t129.length co13 : Value).ownBlock)) (zR_ HO_5) hg (.inl rfl)); replace HO_22 := A0_ (Kd.R_after (v := (.slice (some ⟨go21, 0, none⟩) x4_1.length co21)) (v1 := (.slice (some ⟨go21, 0, none⟩) x4_1.length co21)) (ok := (fun k_ => some k_ ≠ (v127 : Value).ownBlock)) (zR_ HO_22) hg (.inl rfl)); replace HB := A0_ ((by rw [hw]; exact bS (HB.out) GB21.out : Below w.heap.size w w58)); clear hg hw hp_))
                  replace HO_4 := A0_ (rD HO_4.out)
                  replace HO_5 := A0_ (rD HO_5.out)
                  replace HO_22 := A0_ (rD HO_22.out)
                  replace HB := A0_ (bD HB.out)
                  have p27 : 0 ≤ (x24_1 : Int) := zd
                  have q27 : x24_1 < (a0.size : Int) := zd
                  have hx27 := bt_at a0 x24_1; replace p27 := eq_true p27; replace q27 := eq_true q27
                  have p30 : 0 ≤ ((rd t129 x24_1) : Int) := zd
                  have q30 : (rd t129 x24_1) < (a0.size : Int) := zd
                  have hx30 := bt_at a0 (rd t129 x24_1)
                  replace p30 := eq_true p30; replace q30 := eq_true q30
                  refine start_ (n := 7) (S := fun w' => True) (ds := []) #[false, false, false, false, false, false, false] (by kernel_rfl) rfl rfl trivial (fun hHeld => ?_)
                  generalize w58.drew = w59 at HO_4 HO_5 HO_22 HB hHeld ⊢
                  refine pure_ (i := 0) (N := some 45) (v := ?_) (a' := ?_) #[true, false, false, false, false, false, false] rfl rfl (by kernel_rfl) (fun _ _ _ h => h) (Or.inl ⟨by rfl, ?_⟩) ?_ ?_
                  rotate_left
                  ·intro w'
                   go_simp
                   with_reducible rfl
                  rotate_left
                  ·simp only [Act.put, List.setIfInBounds_toArray, List.set_cons_zero, List.set_cons_succ, i64_w, i32_w]
                   rfl
                  refine pure_ (i := 1) (N := some 46) (v := ?_) (a' := ?_) #[true, true, false, false, false, false, false] rfl rfl (by kernel_rfl) (fun _ _ _ h => h) (Or.inl ⟨by rfl, ?_⟩) ?_ ?_
                  rotate_left
                  ·intro w'
                   go_simp
                   with_reducible rfl
                  rotate_left
                  ·simp only [Act.put, List.setIfInBounds_toArray, List.set_cons_zero, List.set_cons_succ, i64_w, i32_w]
                   rfl
                  refine pure_ (i := 3) (N := some 48) (v := ?_) (a' := ?_) #[true, true, false, true, false, false, false] rfl rfl (by kernel_rfl) (fun _ _ _ h => h) (Or.inl ⟨by rfl, ?_⟩) ?_ ?_
                  rotate_left
                  ·intro w'
                   go_simp
                   with_reducible rfl
                  rotate_left
                  ·simp only [Act.put, List.setIfInBounds_toArray, List.set_cons_zero, List.set_cons_succ, i64_w, i32_w]
                   rfl
                  refine pure_ (i := 4) (N := some 49) (v := ?_) (a' := ?_) #[true, true, false, true, true, false, false] rfl rfl (by kernel_rfl) (fun _ _ _ h => h) (Or.inl ⟨by rfl, ?_⟩) ?_ ?_
                  rotate_left
                  ·intro w'
                   go_simp
                   with_reducible rfl
                  rotate_left
                  ·simp only [Act.put, List.setIfInBounds_toArray, List.set_cons_zero, List.set_cons_succ, i64_w, i32_w]
                   rfl
                  refine take_ (i := 2) (N := some 47) (v := ?_) (a' := ?_) #[true, true, true, true, true, false, false] rfl rfl (by kernel_rfl) (fun _ _ _ h => h) (Or.inl ⟨by rfl, ?_⟩) hHeld ?_ ?_
                  rotate_left
                  ·intro w' _
                   go_simp
                   with_reducible rfl
                  rotate_left
                  ·simp only [Act.put, List.setIfInBounds_toArray, List.set_cons_zero, List.set_cons_succ, i64_w, i32_w]
                   rfl
                  refine take_ (i := 5) (N := some 50) (v := ?_) (a' := ?_) #[true, true, true, true, true, true, false] rfl rfl (by kernel_rfl) (fun _ _ _ h => h) (Or.inl ⟨by rfl, ?_⟩) hHeld ?_ ?_
                  rotate_left
                  ·intro w' _
                   go_simp
                   with_reducible rfl
                  rotate_left
                  ·simp only [Act.put, List.setIfInBounds_toArray, List.set_cons_zero, List.set_cons_succ, i64_w, i32_w]
                   rfl
                  refine pure_ (i := 6) (N := some 51) (v := ?_) (a' := ?_) #[true, true, true, true, true, true, true] rfl rfl (by kernel_rfl) (fun _ _ _ h => h) (Or.inl ⟨by rfl, ?_⟩) ?_ ?_
                  rotate_left
                  ·intro w'
                   go_simp
                   with_reducible rfl
                  rotate_left
                  ·simp only [Act.put, List.setIfInBounds_toArray, List.set_cons_zero, List.set_cons_succ, i64_w, i32_w]
                   rfl
                  refine done_ (by kernel_rfl) ?_
                  have p51 : 0 ≤ ((ji48) : Int) := zd
                  have q51 : ((ji48) : Int) < ((x5_1.length : Int) : Int) := zd
                  obtain ⟨go51, co51, eo51, gb51, gl51, cl51, HG51⟩ := Kd.R_form HO_5.out (by omega)
                  (first | cases eo51 | (injection eo51 with ea_ en_ ec_; (first | subst ea_ | (injection ea_ with ea_; subst ea_)); subst ec_; clear en_))
                  have GB51 := A0_ gb51; have GG51 := A0_ HG51; clear gb51 gl51 HG51
                  obtain ⟨hx51_0, hf51_0⟩ := Kd.R_celln 0 HO_5.out ((ji48) : Int) p51 q51
                  replace p51 := eq_true p51; replace q51 := eq_true q51
                  obtain ⟨hy60_, hz60_⟩ := Kd.R_celln 0 HO_5.out ((ji48) : Int) (zd) (zd)
                  have HP60 := Kd.R_putg HO_5.out ((ji48) : Int) (wrap64 ((wrap64 (2 * (rd t129 x24_1))) + 1))
                  try go_wp2_with (first | ((with_reducible refine gS (t := 3) (p := 74) rfl ?_); refine store_event (t := 3) (p := 74) (v := ?vo_w61) (w1 := (w59.setCell ⟨go51, ((ji48) : Int).toNat, none⟩ (.int .i64 (wrap64 ((wrap64 (2 * (rd t129 x24_1))) + 1))))) ?hg ?ho ?hn ?hr ?_; (case ho => rfl); (case hg => rfl); (case hn => rfl); (case hr => first | (go_simp; done) | (go_simp; rfl)); intro w61 hw; have hg : w59.grownBy w61 (some go51) := (by rw [hw]; exact HP60.2); have hp_ : Kd.R (Kd.int .i64) 3 w61 w.heap.size (fun k_ => some k_ ≠ (.slice (some ad132) t129.length co13 : Value).ownBlock ∧ some k_ ≠ (.slice (some ⟨go21, 0, none⟩) x4_1.length co21 : Value).ownBlock) (.slice (some ⟨go51, 0, none⟩) x5_1.length co51) y137 := (by rw [hw, Ny137.out]; exact HP60.1); clear HP60; replace HO_4 := A0_ (Kd.R_after (v := (.slice (some ⟨go51, 0, none⟩) x5_1.length co51)) (v1 := (.slice (some ⟨go51, 0, none⟩) x5_1.length co51)) (ok := (fun k_ => some k_ ≠ (.slice (some ad132) t129.length co13 : Value).ownBlock)) (zmR HO_4 (fun _ hk => ⟨hk.2, hk.1⟩)) hg (.inl rfl)); replace HO_5 := A0_ (hp_); replace HO_22 := A0_ (Kd.R_after (v := (.slice (some ⟨go51, 0, none⟩) x5_1.length co51)) (v1 := (.slice (some ⟨go51, 0, none⟩) x5_1.length co51)) (ok := (fun k_ => some k_ ≠ (.slice (some ⟨go21, 0, none⟩) x4_1.length co21 : Value).ownBlock)) (zmR HO_22 (fun _ hk => ⟨hk.2, hk.1⟩)) hg (.inl rfl)); replace HB := A0_ ((by rw [hw]; exact bS (HB.out) GB51.out : Below w.heap.size w w61)); clear hg hw hp_; have p53 : 0 ≤ ((ji18) : Int) := zd; have q53 : ((ji18) : Int) < ((x5_1.length : Int) : Int) := zd; obtain ⟨hx53_0, hf53_0⟩ := Kd.R_celln 0 HO_5.out ((ji18) : Int) p53 q53; replace p53 := eq_true p53; replace q53 := eq_true q53; obtain ⟨hy62_, hz62_⟩ := Kd.R_celln 0 HO_5.out ((ji18) : Int) (zd) (zd); have HP62 := Kd.R_putg HO_5.out ((ji18) : Int) (wrap64 (2 * (rd t129 x24_1)))) | ((with_reducible refine gS (t := 3) (p := 75) rfl ?_); refine store_event (t := 3) (p := 75) (v := ?vo_w63) (w1 := (w61.setCell ⟨go51, ((ji18) : Int).toNat, none⟩ (.int .i64 (wrap64 (2 * (rd t129 x24_1)))))) ?hg ?ho ?hn ?hr ?_; (case ho => rfl); (case hg => rfl); (case hn => rfl); (case hr => first | (go_simp; done) | (go_simp; rfl)); intro w63 hw; have hg : w61.grownBy w63 (some go51) := (by rw [hw]; exact HP62.2); have hp_ : Kd.R (Kd.int .i64) 3 w63 w.heap.size (fun k_ => some k_ ≠ (.slice (some ad132) t129.length co13 : Value).ownBlock ∧ some k_ ≠ (.slice (some ⟨go21, 0, none⟩) x4_1.length co21 : Value).ownBlock) (.slice (some ⟨go51, 0, none⟩) x5_1.length co51) y138 := (by rw [hw, Ny138.out]; exact HP62.1); clear HP62; replace HO_4 := A0_ (Kd.R_after (v := (.slice (some ⟨go51, 0, none⟩) x5_1.length co51)) (v1 := (.slice (some ⟨go51, 0, none⟩) x5_1.length co51)) (ok := (fun k_ => some k_ ≠ (.slice (some ad132) t129.length co13 : Value).ownBlock)) (zR_ HO_4) hg (.inl rfl)); replace HO_5 := A0_ (hp_); replace HO_22 := A0_ (Kd.R_after (v := (.slice (some ⟨go51, 0, none⟩) x5_1.length co51)) (v1 := (.slice (some ⟨go51, 0, none⟩) x5_1.length co51)) (ok := (fun k_ => some k_ ≠ (.slice (some ⟨go21, 0, none⟩) x4_1.length co21 : Value).ownBlock)) (zR_ HO_22) hg (.inl rfl)); replace HB := A0_ ((by rw [hw]; exact bS (HB.out) GB51.out : Below w.heap.size w w63)); clear hg hw hp_))
                  go_roundg k1
                  case measure => have := HK1.out; omega
                  case rel => exact ⟨(y134), (y138), (wrap64 (x24_1 + 1)), zt, H', ⟨by have := HK1.out; omega⟩, ⟨zmR HO_4 (fun _ hk => ⟨hk.2, hk.1⟩)⟩, ⟨zmR HO_5 (fun _ hk => ⟨hk.2, hk.1⟩)⟩, ⟨zR_ HO_22⟩, ⟨zB_ HB⟩⟩
                 rw [if_neg c52] at H
                 exact absurd H (by simp)
                rw [if_neg c50] at H
                exact absurd H (by simp)
               rw [if_neg c49] at H
               exact absurd H (by simp)
              rw [if_neg c29] at H
              exact absurd H (by simp)
             rw [if_neg c28] at H
             exact absurd H (by simp)
            rw [if_neg c26] at H
            exact absurd H (by simp)
           rw [if_neg c24] at H
           exact absurd H (by simp)
          rw [if_neg c23] at H
          exact absurd H (by simp)
         rw [if_neg c20] at H
         exact absurd H (by simp)
        rw [if_neg c19] at H
        exact absurd H (by simp)
       rw [if_neg c16] at H
       exact absurd H (by simp)
      rw [if_neg c15] at H
      exact absurd H (by simp)
     rw [if_neg c14] at H; have c14b0 := dF c14; clear c14
     obtain ⟨y139, hy139⟩ : ∃ y_ : List (List Int), y_ = (([x4_1, x5_1] : List (List Int))) := ⟨_, rfl⟩
     replace H : ((impl_orbits.f k1 y139).bind fun t142 => (impl_cornersOf.l1 k1 0 t142 (t142.length : Int) 0)) = some r := zH hy139 H
     have Ny139 := A0_ hy139; clear hy139; obtain ⟨t142, A64, H⟩ := zbind H; have H' := A0_ H; clear H; obtain ⟨Ao65, co65, eo65⟩ := rS HO_4.out; subst eo65; obtain ⟨Ao66, co66, eo66⟩ := rS HO_5.out; subst eo66
     go_wp2_with (first | ((with_reducible refine gD (N := 79) rfl ?_); refine Kd.N_lit (Kd.slice 3 (Kd.int .i64)) _ 23 ?hg (N' := 79) ?hd (xs := ([x4_1, x5_1] : List (List Int))) (inner := [.slice Ao65 x4_1.length co65, .slice Ao66 x5_1.length co66]) (ok := (fun k_ => some k_ ≠ (.slice Ao13 t129.length co13 : Value).ownBlock)) (okp := (fun k_ => some k_ ≠ (.slice Ao13 t129.length co13 : Value).ownBlock)) ?hr ?hp (fun _ hk => hk) ((show ∀ k_, wr.heap.size ≤ k_ → (fun k_ => some k_ ≠ (.slice Ao13 t129.length co13 : Value).ownBlock) k_ from fun k_ hk => Kd.fresh' (rX (zR_ HO_22)) k_ hk) _ (Nat.le_refl _)) (Below.refl _ _) (Nat.le_refl _) (by simp) ?_; (case hd => rfl); (case hg => rfl); (case hr => first | (go_simp; done) | (go_simp; rfl)); (case hp => exact (Reps.one (show Kd.FK (Kd.slice 3 (Kd.int .i64)) _ _ x4_1 [.slice Ao65 x4_1.length co65] from (Kd.FK_slice_mk (rR (rM (ok' := (fun k_ => some k_ ≠ (.slice Ao13 t129.length co13 : Value).ownBlock)) (HO_4.out) (fun k_ hk => hk.2))).2.1 (Kd.R_F (rM (ok' := (fun k_ => some k_ ≠ (.slice Ao13 t129.length co13 : Value).ownBlock)) (HO_4.out) (fun k_ hk => hk.2))))) (Reps.one (show Kd.FK (Kd.slice 3 (Kd.int .i64)) _ _ x5_1 [.slice Ao66 x5_1.length co66] from (Kd.FK_slice_mk (rR (rM (ok' := (fun k_ => some k_ ≠ (.slice Ao13 t129.length co13 : Value).ownBlock)) (HO_5.out) (fun k_ hk => hk.2))).2.1 (Kd.R_F (rM (ok' := (fun k_ => some k_ ≠ (.slice Ao13 t129.length co13 : Value).ownBlock)) (HO_5.out) (fun k_ hk => hk.2))))) (Reps.none _ _)))); intro v140 w67 ho68 hb hg_ hnew_; clear hg_ hnew_; (first | rw [← Ny139.out] at ho68 | (simp only [Int.reduceToNat] at ho68; rw [← Ny139.out] at ho68)); replace HO_22 := zR HO_22 hb; have HO141 := A0_ (Kd.N_lower ho68 (bZ (zB_ HB))); replace HB := zB HB hb; clear HO_4 HO_5 hb ho68; obtain ⟨Ao69, co69, eo69⟩ := Kd.N_slice HO141.out; subst eo69) | ((with_reducible refine gC (f := 62) rfl ?_); refine zJ (some 80) Tryz.func62 #[.slice Ao69 y139.length co69] ?_; (with_reducible refine (impl_orbits.calls k1 _ _ y139 t142 _ ?side1 ?side2 A64.out).mono ?_); (case side1 => repeat (first | exact (Kd.N_reads' HO141.out).2.2 | (with_reducible refine cA ?_ _) | (with_reducible refine cN ?_ _) | (with_reducible refine cD ?_))); (case side2 => exact (Kd.N_reads' HO141.out).2.1); rintro e w70 ⟨v143, rfl, ho0, hb⟩; refine ⟨_, rfl, ?_⟩; replace HO141 := A0_ (Kd.N_elder' (by (with_reducible repeat (first | apply Kd.N_alloc | apply Kd.N_drewN | apply Kd.N_drew)); exact HO141.out) (Kd.R_base ho0) hb); have HO144 := A0_ (rL (Kd.R_new' ho0 (rX (zR_ HO_22))) (bZ (zB_ HB))); replace HO_22 := A0_ (Kd.R_elder' (zR_ HO_22) (Kd.R_base ho0) hb); replace HB := zB HB hb; (try clear hb); (try clear ho0); obtain ⟨Ao71, co71, eo71⟩ := rS HO144.out; subst eo71))
     go_loopg [10, 82] k1 (fun kq v10 v82 w' => ∃ (x10_2 : Int) (x82_2 : Int), v10 = .int .i64 x10_2 ∧ v82 = .int .i64 x82_2 ∧ Aside0 (impl_cornersOf.l1 kq x10_2 t142 (t142.length : Int) x82_2 = some r) ∧ Aside0 (kq ≤ k1) ∧ Aside0 (Kd.R (Kd.int .i64) 3 w' w.heap.size (fun _ => True) (.slice Ao71 t142.length co71) t142) ∧ Aside0 (Below w.heap.size w w'))
     case atStart => exact ⟨(0), (0), zt, zt, H', ⟨Nat.le_refl _⟩, ⟨zmR HO144 (fun _ hk => trivial)⟩, ⟨zB_ HB⟩⟩
     case round =>
      clear H'; (try clear c1); (try clear p1); (try clear q1); (try clear hx1); (try clear c2); (try clear p2); (try clear q2); (try clear hx2); (try clear hf2); (try clear c3); (try clear p3); (try clear q3); (try clear hx3); (try clear hf3); (try clear c4); (try clear c5); (try clear p5); (try clear q5); (try clear hx5); (try clear hf5); (try clear c6); (try clear p6); (try clear p13); (try clear q13); (try clear hx13); (try clear c14); (try clear c14b0); (try clear c15); (try clear c15b0); (try clear c16); (try clear c16b0); (try clear c17); (try clear c17b0); (try clear c17b1); (try clear c17b2); (try clear c19); (try clear c19b0); (try clear c20); (try clear c20b0); (try clear p21); (try clear q21); (try clear hx21); (try clear hf21); (try clear c23); (try clear c23b0); (try clear c24); (try clear c24b0); (try clear p25); (try clear q25); (try clear hx25); (try clear hf25); (try clear c26); (try clear c26b0); (try clear p27); (try clear q27); (try clear hx27); (try clear c28); (try clear c28b0); (try clear c29); (try clear c29b0); (try clear p30); (try clear q30); (try clear hx30); (try clear c31); (try clear c31b0); (try clear c31b1); (try clear c33); (try clear c33b0); (try clear c34); (try clear c34b0); (try clear p35); (try clear q35); (try clear hx35); (try clear hf35); (try clear c36); (try clear c36b0); (try clear p37); (try clear q37); (try clear hx37); (try clear hf37); (try clear c49); (try clear c49b0); (try clear c50); (try clear c50b0); (try clear p51); (try clear q51); (try clear hx51); (try clear hf51); (try clear c52); (try clear c52b0); (try clear p53); (try clear q53); (try clear hx53); (try clear hf53); (try clear c62); (try clear p64); (try clear hx132_0); (try clear hx21_0); (try clear hx25_0); (try clear hx35_0); (try clear hx37_0); (try clear hx51_0); (try clear hx53_0); (try clear p132); (try clear p21); (try clear p25); (try clear p27); (try clear p30); (try clear p35); (try clear p37); (try clear p51); (try clear p53); (try clear q132); (try clear q21); (try clear q25); (try clear q27); (try clear q30); (try clear q35); (try clear q37); (try clear q51); (try clear q53); obtain ⟨x10_2, x82_2, rfl, rfl, HA, HK2, HO_80, HB⟩ := hrel
      cases gk with
      | zero => exact absurd HA.out (by simp [impl_cornersOf.l1])
      | succ k2 =>
       have H := HA.out; clear HA; simp only [impl_cornersOf.l1] at H
       by_cases c72 : x82_2 < (t142.length : Int)
       ·rw [if_pos c72] at H
        have c72b0 := dT c72; clear c72
        by_cases c73 : 0 ≤ x82_2
        ·rw [if_pos c73] at H
         have c73b0 := dT c73; clear c73
         by_cases c74 : x82_2 < (t142.length : Int)
         ·rw [if_pos c74] at H
          have c74b0 := dT c74; clear c74
          by_cases c75 : x82_2 = (rd t142 x82_2)
          ·rw [if_pos c75] at H
           have c75b0 : (x82_2 == (rd t142 x82_2)) = true := beq_iff_eq.mpr c75
           have c75b1 : (x82_2 != (rd t142 x82_2)) = false := bne_eq_false_iff_eq.mpr c75
           clear c75; have H' := A0_ H; clear H
           have p145 : 0 ≤ (x82_2 : Int) := zd
           have q145 : x82_2 < (t142.length : Int) := zd
           obtain ⟨ad145, e145, hx145_0⟩ := tI (rR HO_80.out).2.2 x82_2 p145 q145
           cases e145
           replace p145 := eq_true p145; replace q145 := eq_true q145
           go_wp2
           go_roundg k2
           case measure => have := HK1.out; have := HK2.out; omega
           case rel => exact ⟨(wrap64 (x10_2 + 1)), (wrap64 (x82_2 + 1)), zt, zt, H', ⟨by have := HK1.out; have := HK2.out; omega⟩, ⟨zR_ HO_80⟩, ⟨zB_ HB⟩⟩
          rw [if_neg c75] at H
          have c75b0 : (x82_2 == (rd t142 x82_2)) = false := beq_eq_false_iff_ne.mpr c75
          have c75b1 : (x82_2 != (rd t142 x82_2)) = true := bne_iff_ne.mpr c75
          have H' := A0_ H; clear H
          have p145 : 0 ≤ (x82_2 : Int) := zd
          have q145 : x82_2 < (t142.length : Int) := zd
          obtain ⟨ad145, e145, hx145_0⟩ := tI (rR HO_80.out).2.2 x82_2 p145 q145
          cases e145
          replace p145 := eq_true p145; replace q145 := eq_true q145
          go_wp2
          go_roundg k2
          case measure => have := HK1.out; have := HK2.out; omega
          case rel => exact ⟨(x10_2), (wrap64 (x82_2 + 1)), zt, zt, H', ⟨by have := HK1.out; have := HK2.out; omega⟩, ⟨zR_ HO_80⟩, ⟨zB_ HB⟩⟩
         rw [if_neg c74] at H
         exact absurd H (by simp)
        rw [if_neg c73] at H
        exact absurd H (by simp)
       rw [if_neg c72] at H; have c72b0 := dF c72; clear c72; obtain rfl := sI H
       go_wp2
       go_ret
       exact ⟨by first | rfl | (simp [errW_none, errW_some] <;> rfl) | (simp only [← hji2]; first | rfl | (simp [errW_none, errW_some] <;> rfl)) | (simp [*, errW_none, errW_some] <;> rfl), zB_ HB⟩
  rw [if_neg c4] at H
  exact absurd H (by simp)
 rw [if_neg c3] at H
 exact absurd H (by simp)

end Go.Proofs.YtikkokflcgcnbaaGreatDoor.PFnExecuteClass
