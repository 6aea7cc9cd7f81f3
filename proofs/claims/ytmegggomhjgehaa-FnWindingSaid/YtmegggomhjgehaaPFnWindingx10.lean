-- Made by a program of this session (wip/tools) out of the loaded program; not trusted: Lean checks it.
import Derived.Test.YtmegggomhjgehaaPFnWindingx0
import Derived.Test.YtmegggomhjgehaaPFnWindingx2
import Derived.Test.YtmegggomhjgehaaPFnWindingx5
import Derived.Test.YtmegggomhjgehaaPFnWindingx6
import Derived.Test.YtmegggomhjgehaaPFnWindingx9
-- packed
namespace Go.Proofs.Ytmegggomhjgehaa.PFnWinding
open Go.RowKit Go.Proofs.YtmegggomhjgehaaW.PrintWords Go.Proofs.YtmegggomhjgehaaW.PrintLast Go.Proofs.YtmegggomhjgehaaW.PrintMore
attribute [local go_sem] max2_int min2_int max_two min_two max_three min_three max_four min_four   -- for this text's walks alone
set_option linter.unusedVariables false
set_option linter.unusedSimpArgs false

/-! ### impl_CoverWinding: function 45 -/
mutual
def impl_CoverWinding.j0 : Nat → Int → List (List Int) → Int → Bool → List Int → List Int → Option (List Int × Bool)
  | 0, _, _, _, _, _, _ => none
  | k + 1, x1, x2, x3, x29, x400000, x400001 => if x29 = true then (some (([] : List Int), false)) else ((impl_mul.f k x400001 x400000).bind fun t401 => ((impl_cyclesOf.f k t401).bind fun t404 => (impl_CoverWinding.l0 k x1 x2 x3 t404 (t404.length : Int) 0 x400000 x400001)))
def impl_CoverWinding.l0 : Nat → Int → List (List Int) → Int → List (List Int) → Int → Int → List Int → List Int → Option (List Int × Bool)
  | 0, _, _, _, _, _, _, _, _ => none
  | k + 1, x1, x2, x3, x35, x36, x37, x400000, x400001 => if x37 < x36 then (if 0 ≤ x37 then (if x37 < (x35.length : Int) then (impl_CoverWinding.l1 k x1 x2 x3 (rd_L1 x35 x37) x35 x36 x37 (rd_L1 x35 x37) ((rd_L1 x35 x37).length : Int) 0 x400000 x400001) else (none)) else (none)) else (some (([] : List Int), false))
def impl_CoverWinding.l1 : Nat → Int → List (List Int) → Int → List Int → List (List Int) → Int → Int → List Int → Int → Int → List Int → List Int → Option (List Int × Bool)
  | 0, _, _, _, _, _, _, _, _, _, _, _, _ => none
  | k + 1, x1, x2, x3, x11, x35, x36, x37, x41, x42, x43, x400000, x400001 => if x43 < x42 then (if 0 ≤ x43 then (if x43 < (x41.length : Int) then (if (rd x41 x43) = x3 then ((impl_winding.f k x400000 x400001 x1 x2 x11).bind fun t409 => (some (t409, true))) else (impl_CoverWinding.l1 k x1 x2 x3 x11 x35 x36 x37 x41 x42 (wrap64 (x43 + 1)) x400000 x400001)) else (none)) else (none)) else (impl_CoverWinding.l0 k x1 x2 x3 x35 x36 (wrap64 (x37 + 1)) x400000 x400001)
end
def impl_CoverWinding.f (k : Nat) (l0_0 : List Int) (l0_1 : List Int) (a1 : Int) (l2 : List (List Int)) (a3 : Int) : Option (List Int × Bool) := (impl_VoltageValid.f k l0_0 l0_1 a1 l2).bind fun t400 => (if t400 = true then (if a3 < 0 then (impl_CoverWinding.j0 k a1 l2 a3 true l0_0 l0_1) else (impl_CoverWinding.j0 k a1 l2 a3 (decide (a3 ≥ (l0_0.length : Int))) l0_0 l0_1)) else (impl_CoverWinding.j0 k a1 l2 a3 true l0_0 l0_1))
set_option maxHeartbeats 8000000 in
set_option maxRecDepth 100000 in
theorem impl_CoverWinding.calls (k : Nat) (A0_0 : Option Addr) (c0_0 : Nat) (l0_0 : List Int) (A0_1 : Option Addr) (c0_1 : Nat) (l0_1 : List Int) (a1 : Int) (A2 : Option Addr) (c2 : Nat) (l2 : List (List Int)) (a3 : Int) (r1 : List Int) (r2 : Bool) (w : World) (hr0_0 : Kd.C (Kd.int .i64) w A0_0 l0_0.length l0_0) (hc0_0 : l0_0.length ≤ c0_0) (hr0_1 : Kd.C (Kd.int .i64) w A0_1 l0_1.length l0_1) (hc0_1 : l0_1.length ≤ c0_1) (hr2 : Kd.C (Kd.slice 3 (Kd.int .i64)) w A2 l2.length l2) (hc2 : l2.length ≤ c2) (h : impl_CoverWinding.f k l0_0 l0_1 a1 l2 a3 = some (r1, r2)) :
    Calls Try.prog 45 #[.agg #[.slice A0_0 l0_0.length c0_0, .slice A0_1 l0_1.length c0_1], .int .i64 a1, .slice A2 l2.length c2, .int .i64 a3] w fun e w' => ∃ v0_ : Value, e = .returned (.tuple #[v0_, .bool r2]) ∧ Kd.R (Kd.int .i64) 3 w' w.heap.size (fun _ => True) v0_ r1 ∧ Below w.heap.size w w' := by
 have hu25 := Try.underlying25; have HR0_0 := A0_ hr0_0; have HC0_0 := A0_ hc0_0; clear hr0_0 hc0_0; have HR0_1 := A0_ hr0_1; have HC0_1 := A0_ hc0_1; clear hr0_1 hc0_1; have HR2 := A0_ hr2; have HC2 := A0_ hc2; clear hr2 hc2
 have HB := A0_ (Below.refl w.heap.size w)
 have H : ((impl_VoltageValid.f k l0_0 l0_1 a1 l2).bind fun t400 => (if t400 = true then (if a3 < 0 then (impl_CoverWinding.j0 k a1 l2 a3 true l0_0 l0_1) else (impl_CoverWinding.j0 k a1 l2 a3 (decide (a3 ≥ (l0_0.length : Int))) l0_0 l0_1)) else (impl_CoverWinding.j0 k a1 l2 a3 true l0_0 l0_1))) = some (r1, r2) := h
 clear h; have HC5 := A0_ H; clear H
 go_enter Try.func45, Try.ntmps45
 go_upto_region 1 with (first | ((with_reducible refine gD (N := 4) rfl ?_); refine zX (N := 4) (cs := #[.slice A0_0 l0_0.length c0_0, .slice A0_1 l0_1.length c0_1]) (t := 25) ?_; intro gb399 hg w6 hbox hb; have BK399 := A0_ (hbox); have GW399 := zG hg HB; have GE399 := zG hg HB; replace HB := zB HB hb; clear hb hbox hg))
 (try simp only [Act.put, List.setIfInBounds_toArray, List.set_cons_zero, List.set_cons_succ])
 go_cut [29] (fun v29 wc => ∃ (kq : Nat) (x29_4 : Bool), v29 = .bool x29_4 ∧ Aside0 (impl_CoverWinding.j0 kq a1 l2 a3 x29_4 l0_0 l0_1 = some (r1, r2)) ∧ Aside0 (kq ≤ k) ∧ Aside0 (wc.heap[gb399]? = some (.cells #[(.slice A0_0 l0_0.length c0_0), (.slice A0_1 l0_1.length c0_1)] 25 (0, 0))) ∧ Aside0 (Below w.heap.size w wc))
 case first =>
  have H := HC5.out; clear HC5; obtain ⟨t400, A7, H⟩ := zbind H
  by_cases c8 : t400 = true
  ·subst c8
   have H1 : (if a3 < 0 then (impl_CoverWinding.j0 k a1 l2 a3 true l0_0 l0_1) else (impl_CoverWinding.j0 k a1 l2 a3 (decide (a3 ≥ (l0_0.length : Int))) l0_0 l0_1)) = some (r1, r2) := by rw [if_pos rfl] at H; exact H
   clear H; have H := H1; clear H1
   by_cases c9 : a3 < 0
   ·rw [if_pos c9] at H
    have c9b0 := dT c9; clear c9
    (first | rw [c9b0] | (simp only [i64_w, i32_w]; rw [c9b0]) | skip)
    have H' := A0_ H; clear H; have hcz10_0 := zc0 BK399; have hcz10_1 := zc1 BK399; have hfz10_0 := kF BK399.out 0; have hfz10_1 := kF BK399.out 1
    go_wp2_with (first | ((with_reducible refine gC (f := 53) rfl ?_); refine zJ (some 17) Try.func53 #[.agg #[.slice A0_0 l0_0.length c0_0, .slice A0_1 l0_1.length c0_1], .int .i64 a1, .slice A2 l2.length c2] ?_; (with_reducible refine (impl_VoltageValid.calls k _ _ l0_0 _ _ l0_1 a1 _ _ l2 true _ ?side1 ?side2 ?side3 ?side4 ?side5 ?side6 A7.out).mono ?_); (case side1 => exact zC HR0_0 HB); (case side2 => exact HC0_0.out); (case side3 => exact zC HR0_1 HB); (case side4 => exact HC0_1.out); (case side5 => exact zC HR2 HB); (case side6 => exact HC2.out); rintro e w11 ⟨rfl, hb⟩; refine ⟨_, rfl, ?_⟩; replace BK399 := zK BK399 hb; replace HB := zB HB hb; (try clear hb)))
    go_meet
    case rel => exact ⟨_, (true), zt, H', zo, ⟨zK_ BK399⟩, ⟨zB_ HB⟩⟩
   rw [if_neg c9] at H; have c9b0 := dF c9; clear c9
   (first | rw [c9b0] | (simp only [i64_w, i32_w]; rw [c9b0]) | skip)
   have H' := A0_ H; clear H; have hcz12_0 := zc0 BK399; have hcz12_1 := zc1 BK399; have hfz12_0 := kF BK399.out 0; have hfz12_1 := kF BK399.out 1
   go_wp2_with (first | ((with_reducible refine gC (f := 53) rfl ?_); refine zJ (some 17) Try.func53 #[.agg #[.slice A0_0 l0_0.length c0_0, .slice A0_1 l0_1.length c0_1], .int .i64 a1, .slice A2 l2.length c2] ?_; (with_reducible refine (impl_VoltageValid.calls k _ _ l0_0 _ _ l0_1 a1 _ _ l2 true _ ?side1 ?side2 ?side3 ?side4 ?side5 ?side6 A7.out).mono ?_); (case side1 => exact zC HR0_0 HB); (case side2 => exact HC0_0.out); (case side3 => exact zC HR0_1 HB); (case side4 => exact HC0_1.out); (case side5 => exact zC HR2 HB); (case side6 => exact HC2.out); rintro e w13 ⟨rfl, hb⟩; refine ⟨_, rfl, ?_⟩; replace BK399 := zK BK399 hb; replace HB := zB HB hb; (try clear hb); have hcz14_0 := zc0 BK399; have hcz14_1 := zc1 BK399; have hfz14_0 := kF BK399.out 0; have hfz14_1 := kF BK399.out 1))
   go_meet
   case rel => exact ⟨_, (decide (a3 ≥ (l0_0.length : Int))), zt, H', zo, ⟨zK_ BK399⟩, ⟨zB_ HB⟩⟩
  replace c8 := Bool.eq_false_iff.mpr c8; subst c8
  have H1 : (impl_CoverWinding.j0 k a1 l2 a3 true l0_0 l0_1) = some (r1, r2) := by rw [if_neg (show ¬ (false = true) by decide)] at H; exact H
  clear H; have H := H1; clear H1; have H' := A0_ H; clear H; have hcz15_0 := zc0 BK399; have hcz15_1 := zc1 BK399; have hfz15_0 := kF BK399.out 0; have hfz15_1 := kF BK399.out 1
  go_wp2_with (first | ((with_reducible refine gC (f := 53) rfl ?_); refine zJ (some 17) Try.func53 #[.agg #[.slice A0_0 l0_0.length c0_0, .slice A0_1 l0_1.length c0_1], .int .i64 a1, .slice A2 l2.length c2] ?_; (with_reducible refine (impl_VoltageValid.calls k _ _ l0_0 _ _ l0_1 a1 _ _ l2 false _ ?side1 ?side2 ?side3 ?side4 ?side5 ?side6 A7.out).mono ?_); (case side1 => exact zC HR0_0 HB); (case side2 => exact HC0_0.out); (case side3 => exact zC HR0_1 HB); (case side4 => exact HC0_1.out); (case side5 => exact zC HR2 HB); (case side6 => exact HC2.out); rintro e w16 ⟨rfl, hb⟩; refine ⟨_, rfl, ?_⟩; replace BK399 := zK BK399 hb; replace HB := zB HB hb; (try clear hb)))
  go_meet
  case rel => exact ⟨_, (true), zt, H', zo, ⟨zK_ BK399⟩, ⟨zB_ HB⟩⟩
 case rest =>
  clear HC5; (try clear c2); (try clear p2); (try clear c4); (try clear c5); (try clear c8); (try clear c9); (try clear c9b0); (try clear hcz10_0); (try clear hcz10_1); (try clear hcz12_0); (try clear hcz12_1); (try clear hcz14_0); (try clear hcz14_1); (try clear hcz15_0); (try clear hcz15_1); (try clear hfz10_0); (try clear hfz10_1); (try clear hfz12_0); (try clear hfz12_1); (try clear hfz14_0); (try clear hfz14_1); (try clear hfz15_0); (try clear hfz15_1); obtain ⟨kq, x29_4, rfl, HA, HJ4, BK399, HB⟩ := hcut
  cases kq with
  | zero => exact absurd HA.out (by simp [impl_CoverWinding.j0])
  | succ kj4 =>
   have H := HA.out; clear HA; simp only [impl_CoverWinding.j0] at H
   by_cases c17 : x29_4 = true
   ·subst c17
    have H1 : (some (([] : List Int), false)) = some (r1, r2) := by rw [if_pos rfl] at H; exact H
    clear H; have H := H1; clear H1; simp only [Option.some.injEq, Prod.mk.injEq] at H; obtain ⟨rfl, rfl⟩ := H
    go_wp2
    go_ret2
    exact ⟨_, by first | rfl | (simp [*] <;> rfl), by first | exact Kd.R_nil _ _ _ _ _ | exact Kd.N_nil _ _ _ _ _ | exact Kd.V_nil _ _ _ _ _ | exact Kd.Q_nil _ _ _ _ _ | exact Kd.S_nil _ _ _ _ _, zB_ HB⟩
   replace c17 := Bool.eq_false_iff.mpr c17; subst c17
   have H1 : ((impl_mul.f kj4 l0_1 l0_0).bind fun t401 => ((impl_cyclesOf.f kj4 t401).bind fun t404 => (impl_CoverWinding.l0 kj4 a1 l2 a3 t404 (t404.length : Int) 0 l0_0 l0_1))) = some (r1, r2) := by rw [if_neg (show ¬ (false = true) by decide)] at H; exact H
   clear H; have H := H1; clear H1; obtain ⟨t401, A18, H⟩ := zbind H; obtain ⟨t404, A19, H⟩ := zbind H; have H' := A0_ H; clear H; have hcz20_0 := zc0 BK399; have hcz20_1 := zc1 BK399; have hfz20_0 := kF BK399.out 0; have hfz20_1 := kF BK399.out 1
   go_wp2_with (first | ((with_reducible refine gC (f := 69) rfl ?_); refine zJ (some 34) Try.func69 #[.slice A0_1 l0_1.length c0_1, .slice A0_0 l0_0.length c0_0] ?_; (with_reducible refine (impl_mul.calls kj4 _ _ l0_1 _ _ l0_0 t401 _ ?side1 ?side2 ?side3 ?side4 A18.out).mono ?_); (case side1 => exact zC HR0_1 HB); (case side2 => exact HC0_1.out); (case side3 => exact zC HR0_0 HB); (case side4 => exact HC0_0.out); rintro e w21 ⟨v402, rfl, ho0, hb⟩; refine ⟨_, rfl, ?_⟩; have HO403 := A0_ (rL ho0 (bZ (zB_ HB))); replace BK399 := zK BK399 hb; replace HB := zB HB hb; (try clear hb); (try clear ho0); obtain ⟨Ao22, co22, eo22⟩ := rS HO403.out; subst eo22) | ((with_reducible refine gC (f := 68) rfl ?_); refine zJ (some 35) Try.func68 #[.slice Ao22 t401.length co22] ?_; (with_reducible refine (impl_cyclesOf.calls kj4 _ _ t401 t404 _ ?side1 ?side2 A19.out).mono ?_); (case side1 => exact zD HO403); (case side2 => exact (rR HO403.out).2.1); rintro e w23 ⟨v405, rfl, ho0, hb⟩; refine ⟨_, rfl, ?_⟩; have HO406 := A0_ (Kd.S_lower (Kd.S_new' ho0 (rX (zR_ HO403))) (bZ (zB_ HB))); replace HO403 := zR HO403 hb; replace BK399 := zK BK399 hb; replace HB := zB HB hb; (try clear hb); (try clear ho0); obtain ⟨Ao24, co24, eo24⟩ := Kd.S_slice HO406.out; subst eo24))
   go_loopg [37] kj4 (fun kq v37 w' => ∃ (x37_2 : Int), v37 = .int .i64 x37_2 ∧ Aside0 (impl_CoverWinding.l0 kq a1 l2 a3 t404 (t404.length : Int) x37_2 l0_0 l0_1 = some (r1, r2)) ∧ Aside0 (kq ≤ kj4) ∧ Aside0 (Kd.S (Kd.slice 3 (Kd.int .i64)) 23 w' w.heap.size (fun _ => True) (.slice Ao24 t404.length co24) t404) ∧ Aside0 (w'.heap[gb399]? = some (.cells #[(.slice A0_0 l0_0.length c0_0), (.slice A0_1 l0_1.length c0_1)] 25 (0, 0))) ∧ Aside0 (Below w.heap.size w w'))
   case atStart => exact ⟨(0), zt, H', ⟨Nat.le_refl _⟩, ⟨zmS HO406 (fun _ hk => trivial)⟩, ⟨zK_ BK399⟩, ⟨zB_ HB⟩⟩
   case round =>
    clear H'; (try clear c1); (try clear c2); (try clear p2); (try clear c4); (try clear c5); (try clear c6); (try clear c8); (try clear c9); (try clear c9b0); (try clear c17); (try clear hcz10_0); (try clear hcz10_1); (try clear hcz12_0); (try clear hcz12_1); (try clear hcz14_0); (try clear hcz14_1); (try clear hcz15_0); (try clear hcz15_1); (try clear hcz20_0); (try clear hcz20_1); (try clear hfz10_0); (try clear hfz10_1); (try clear hfz12_0); (try clear hfz12_1); (try clear hfz14_0); (try clear hfz14_1); (try clear hfz15_0); (try clear hfz15_1); (try clear hfz20_0); (try clear hfz20_1); (try clear p2); obtain ⟨x37_2, rfl, HA, HK2, HO_35, BK399, HB⟩ := hrel
    cases gk with
    | zero => exact absurd HA.out (by simp [impl_CoverWinding.l0])
    | succ k2 =>
     have H := HA.out; clear HA; simp only [impl_CoverWinding.l0] at H
     by_cases c25 : x37_2 < (t404.length : Int)
     ·rw [if_pos c25] at H
      have c25b0 := dT c25; clear c25
      by_cases c26 : 0 ≤ x37_2
      ·rw [if_pos c26] at H
       have c26b0 := dT c26; clear c26
       by_cases c27 : x37_2 < (t404.length : Int)
       ·rw [if_pos c27] at H
        have c27b0 := dT c27; clear c27; have H' := A0_ H; clear H
        have p407 : 0 ≤ (x37_2 : Int) := zd
        have q407 : x37_2 < (t404.length : Int) := zd
        obtain ⟨ad407, A407_0, c407_0, e407, hx407_0, hl407_0, hi407_0⟩ := at_L1 (Kd.S_reads' HO_35.out).2.2 x37_2 p407 q407
        cases e407
        obtain ⟨ce407, hce407, hMe407, hcc407⟩ := Kd.S_get HO_35.out [] x37_2 p407 (by first | exact q407 | exact zd | (have e_ := (Kd.S_reads' HO_35.out).1; omega))
        obtain ⟨ve407_0, rfl, ge407_0⟩ := hMe407; have hv407_0 := hcc407 0 _ rfl
        rw [Nat.add_zero, show ((Kd.slice 3 (Kd.int .i64))).sz = 1 from rfl, Nat.mul_one] at hv407_0
        replace hv407_0 := sI (hv407_0.symm.trans hx407_0)
        rw [hv407_0] at ge407_0
        have HL407_0 := A0_ (show Kd.R (Kd.int .i64) 3 _ _ _ _ (rd_L1 t404 x37_2) from ge407_0)
        clear hv407_0 ge407_0 hcc407 hce407; have HR407_0 := A0_ hi407_0; have HC407_0 := A0_ hl407_0; clear hi407_0 hl407_0; replace p407 := eq_true p407; replace q407 := eq_true q407
        go_wp2
        go_loopg [43] k2 (fun kq v43 w' => ∃ (x43_3 : Int), v43 = .int .i64 x43_3 ∧ Aside0 (impl_CoverWinding.l1 kq a1 l2 a3 (rd_L1 t404 x37_2) t404 (t404.length : Int) x37_2 (rd_L1 t404 x37_2) ((rd_L1 t404 x37_2).length : Int) x43_3 l0_0 l0_1 = some (r1, r2)) ∧ Aside0 (kq ≤ k2) ∧ Aside0 (Kd.S (Kd.slice 3 (Kd.int .i64)) 23 w' w.heap.size (fun _ => True) (.slice (some ad407) t404.length co24) t404) ∧ Aside0 (w'.heap[gb399]? = some (.cells #[(.slice A0_0 l0_0.length c0_0), (.slice A0_1 l0_1.length c0_1)] 25 (0, 0))) ∧ Aside0 (Kd.C (Kd.int .i64) w' A407_0 (rd_L1 t404 x37_2).length (rd_L1 t404 x37_2)) ∧ Aside0 (Below w.heap.size w w'))
        case atStart => exact ⟨(0), zt, H', ⟨Nat.le_refl _⟩, ⟨zS_ HO_35⟩, ⟨zK_ BK399⟩, ⟨by repeat (first | (with_reducible exact HR407_0.out) | (with_reducible refine cA ?_ _) | (with_reducible refine cN ?_ _) | (with_reducible refine cD ?_) | exact HR407_0.out)⟩, ⟨zB_ HB⟩⟩
        case round =>
         clear H'; (try clear c1); (try clear c2); (try clear p2); (try clear c4); (try clear p4); (try clear q4); (try clear hx4); (try clear c5); (try clear c6); (try clear c8); (try clear c9); (try clear c9b0); (try clear c17); (try clear c25); (try clear c25b0); (try clear c26); (try clear c26b0); (try clear c27); (try clear c27b0); (try clear hcz10_0); (try clear hcz10_1); (try clear hcz12_0); (try clear hcz12_1); (try clear hcz14_0); (try clear hcz14_1); (try clear hcz15_0); (try clear hcz15_1); (try clear hcz20_0); (try clear hcz20_1); (try clear hfz10_0); (try clear hfz10_1); (try clear hfz12_0); (try clear hfz12_1); (try clear hfz14_0); (try clear hfz14_1); (try clear hfz15_0); (try clear hfz15_1); (try clear hfz20_0); (try clear hfz20_1); (try clear hx407_0); (try clear p2); (try clear p407); (try clear q407); obtain ⟨x43_3, rfl, HA, HK3, HO_35, BK399, HR407_0, HB⟩ := hrel
         cases gk with
         | zero => exact absurd HA.out (by simp [impl_CoverWinding.l1])
         | succ k3 =>
          have H := HA.out; clear HA; simp only [impl_CoverWinding.l1] at H
          by_cases c28 : x43_3 < ((rd_L1 t404 x37_2).length : Int)
          ·rw [if_pos c28] at H
           have c28b0 := dT c28; clear c28
           by_cases c29 : 0 ≤ x43_3
           ·rw [if_pos c29] at H
            have c29b0 := dT c29; clear c29
            by_cases c30 : x43_3 < ((rd_L1 t404 x37_2).length : Int)
            ·rw [if_pos c30] at H
             have c30b0 := dT c30; clear c30
             by_cases c31 : (rd (rd_L1 t404 x37_2) x43_3) = a3
             ·rw [if_pos c31] at H
              have c31b0 : ((rd (rd_L1 t404 x37_2) x43_3) == a3) = true := beq_iff_eq.mpr c31
              have c31b1 : ((rd (rd_L1 t404 x37_2) x43_3) != a3) = false := bne_eq_false_iff_eq.mpr c31
              clear c31; obtain ⟨t409, A32, H⟩ := zbind H; simp only [Option.some.injEq, Prod.mk.injEq] at H; obtain ⟨rfl, rfl⟩ := H
              have p408 : 0 ≤ (x43_3 : Int) := zd
              have q408 : x43_3 < ((rd_L1 t404 x37_2).length : Int) := zd
              obtain ⟨ad408, e408, hx408_0⟩ := tI HR407_0.out x43_3 p408 q408
              cases e408
              try replace hx408_0 := (HB.out.cell (wL w _ hx408_0)).trans hx408_0
              replace p408 := eq_true p408; replace q408 := eq_true q408; have hcz33_0 := zc0 BK399; have hcz33_1 := zc1 BK399; have hfz33_0 := kF BK399.out 0; have hfz33_1 := kF BK399.out 1
              go_wp2_with (first | ((with_reducible refine gC (f := 70) rfl ?_); refine zJ (some 54) Try.func70 #[.agg #[.slice A0_0 l0_0.length c0_0, .slice A0_1 l0_1.length c0_1], .int .i64 a1, .slice A2 l2.length c2, .slice (some ad408) (rd_L1 t404 x37_2).length c407_0] ?_; (with_reducible refine (impl_winding.calls k3 _ _ l0_0 _ _ l0_1 a1 _ _ l2 _ _ (rd_L1 t404 x37_2) t409 _ ?side1 ?side2 ?side3 ?side4 ?side5 ?side6 ?side7 ?side8 A32.out).mono ?_); (case side1 => exact zC HR0_0 HB); (case side2 => exact HC0_0.out); (case side3 => exact zC HR0_1 HB); (case side4 => exact HC0_1.out); (case side5 => exact zC HR2 HB); (case side6 => exact HC2.out); (case side7 => repeat (first | (with_reducible exact HR407_0.out) | exact (cB HR407_0.out HB.out) | (with_reducible refine cA ?_ _) | (with_reducible refine cN ?_ _) | (with_reducible refine cD ?_))); (case side8 => exact HC407_0.out); rintro e w34 ⟨v410, rfl, ho0, hb⟩; refine ⟨_, rfl, ?_⟩; replace HO_35 := A0_ (Kd.S_elder' (zS_ HO_35) (Kd.R_base ho0) hb); have HO411 := A0_ (rL ho0 (bZ (zB_ HB))); replace BK399 := zK BK399 hb; replace HR407_0 := A0_ (cB (by repeat (first | (with_reducible exact HR407_0.out) | (with_reducible refine cA ?_ _) | (with_reducible refine cN ?_ _) | (with_reducible refine cD ?_) | exact HR407_0.out)) hb); replace HB := zB HB hb; (try clear hb); (try clear ho0)))
              go_ret2
              exact ⟨_, by first | rfl | (simp [*] <;> rfl), zR_ HO411, zB_ HB⟩
             rw [if_neg c31] at H
             have c31b0 : ((rd (rd_L1 t404 x37_2) x43_3) == a3) = false := beq_eq_false_iff_ne.mpr c31
             have c31b1 : ((rd (rd_L1 t404 x37_2) x43_3) != a3) = true := bne_iff_ne.mpr c31
             have H' := A0_ H; clear H
             have p408 : 0 ≤ (x43_3 : Int) := zd
             have q408 : x43_3 < ((rd_L1 t404 x37_2).length : Int) := zd
             obtain ⟨ad408, e408, hx408_0⟩ := tI HR407_0.out x43_3 p408 q408
             cases e408
             try replace hx408_0 := (HB.out.cell (wL w _ hx408_0)).trans hx408_0
             replace p408 := eq_true p408; replace q408 := eq_true q408
             go_wp2
             go_roundg k3
             case measure => have := HJ4.out; have := HK2.out; have := HK3.out; omega
             case rel => exact ⟨(wrap64 (x43_3 + 1)), zt, H', ⟨by have := HJ4.out; have := HK2.out; have := HK3.out; omega⟩, ⟨zS_ HO_35⟩, ⟨zK_ BK399⟩, ⟨by repeat (first | (with_reducible exact HR407_0.out) | (with_reducible refine cA ?_ _) | (with_reducible refine cN ?_ _) | (with_reducible refine cD ?_) | exact HR407_0.out)⟩, ⟨zB_ HB⟩⟩
            rw [if_neg c30] at H
            exact absurd H (by simp)
           rw [if_neg c29] at H
           exact absurd H (by simp)
          rw [if_neg c28] at H; have c28b0 := dF c28; clear c28; have H' := A0_ H; clear H
          go_wp2
          go_roundg k3
          case measure => have := HJ4.out; have := HK2.out; have := HK3.out; omega
          case rel => exact ⟨(wrap64 (x37_2 + 1)), zt, H', ⟨by have := HJ4.out; have := HK2.out; have := HK3.out; omega⟩, ⟨zS_ HO_35⟩, ⟨zK_ BK399⟩, ⟨zB_ HB⟩⟩
       rw [if_neg c27] at H
       exact absurd H (by simp)
      rw [if_neg c26] at H
      exact absurd H (by simp)
     rw [if_neg c25] at H; have c25b0 := dF c25; clear c25; simp only [Option.some.injEq, Prod.mk.injEq] at H; obtain ⟨rfl, rfl⟩ := H
     go_wp2
     go_ret2
     exact ⟨_, by first | rfl | (simp [*] <;> rfl), by first | exact Kd.R_nil _ _ _ _ _ | exact Kd.N_nil _ _ _ _ _ | exact Kd.V_nil _ _ _ _ _ | exact Kd.Q_nil _ _ _ _ _ | exact Kd.S_nil _ _ _ _ _, zB_ HB⟩

/-! ### spec_VoltageValid: function 56 -/
mutual
def spec_VoltageValid.j0 : Nat → Int → List (List Int) → Bool → Option (Bool)
  | 0, _, _, _ => none
  | k + 1, x1, x2, x32 => if x32 = true then (some false) else (spec_VoltageValid.l0 k x1 x2 0)
def spec_VoltageValid.l0 : Nat → Int → List (List Int) → Int → Option (Bool)
  | 0, _, _, _ => none
  | k + 1, x1, x2, x7 => if x7 < (x2.length : Int) then (if 0 ≤ x7 then ((spec_PermValid.f k (rd_L1 x2 x7)).bind fun t416 => (if t416 = true then (if ((rd_L1 x2 x7).length : Int) = x1 then (spec_VoltageValid.l0 k x1 x2 (wrap64 (x7 + 1))) else (some false)) else (some false))) else (none)) else (some true)
end
def spec_VoltageValid.f (k : Nat) (l0_0 : List Int) (l0_1 : List Int) (a1 : Int) (l2 : List (List Int)) : Option (Bool) := (spec_MapValid.f k l0_0 l0_1).bind fun t413 => (if t413 = true then ((spec_l6In.f a1 1 6).bind fun t414 => (if t414 = true then (if (wrap64 (a1 * (l0_0.length : Int))) > 12 then (spec_VoltageValid.j0 k a1 l2 true) else (spec_VoltageValid.j0 k a1 l2 ((l2.length : Int) != (wrap64 ((l0_1.length : Int) / 2))))) else (spec_VoltageValid.j0 k a1 l2 true))) else (spec_VoltageValid.j0 k a1 l2 true))
set_option maxHeartbeats 8000000 in
set_option maxRecDepth 100000 in
theorem spec_VoltageValid.calls (k : Nat) (A0_0 : Option Addr) (c0_0 : Nat) (l0_0 : List Int) (A0_1 : Option Addr) (c0_1 : Nat) (l0_1 : List Int) (a1 : Int) (A2 : Option Addr) (c2 : Nat) (l2 : List (List Int)) (r : Bool) (w : World) (hr0_0 : Kd.C (Kd.int .i64) w A0_0 l0_0.length l0_0) (hc0_0 : l0_0.length ≤ c0_0) (hr0_1 : Kd.C (Kd.int .i64) w A0_1 l0_1.length l0_1) (hc0_1 : l0_1.length ≤ c0_1) (hr2 : Kd.C (Kd.slice 3 (Kd.int .i64)) w A2 l2.length l2) (hc2 : l2.length ≤ c2) (h : spec_VoltageValid.f k l0_0 l0_1 a1 l2 = some r) :
    Calls Try.prog 56 #[.agg #[.slice A0_0 l0_0.length c0_0, .slice A0_1 l0_1.length c0_1], .int .i64 a1, .slice A2 l2.length c2] w fun e w' => e = .returned (.bool r) ∧ Below w.heap.size w w' := by
 have hu25 := Try.underlying25; have HR0_0 := A0_ hr0_0; have HC0_0 := A0_ hc0_0; clear hr0_0 hc0_0; have HR0_1 := A0_ hr0_1; have HC0_1 := A0_ hc0_1; clear hr0_1 hc0_1; have HR2 := A0_ hr2; have HC2 := A0_ hc2; clear hr2 hc2
 have HB := A0_ (Below.refl w.heap.size w)
 have H : ((spec_MapValid.f k l0_0 l0_1).bind fun t413 => (if t413 = true then ((spec_l6In.f a1 1 6).bind fun t414 => (if t414 = true then (if (wrap64 (a1 * (l0_0.length : Int))) > 12 then (spec_VoltageValid.j0 k a1 l2 true) else (spec_VoltageValid.j0 k a1 l2 ((l2.length : Int) != (wrap64 ((l0_1.length : Int) / 2))))) else (spec_VoltageValid.j0 k a1 l2 true))) else (spec_VoltageValid.j0 k a1 l2 true))) = some r := h
 clear h; have HC4 := A0_ H; clear H
 go_enter Try.func56, Try.ntmps56
 go_upto_region 1 with (first | ((with_reducible refine gD (N := 3) rfl ?_); refine zX (N := 3) (cs := #[.slice A0_0 l0_0.length c0_0, .slice A0_1 l0_1.length c0_1]) (t := 25) ?_; intro gb412 hg w5 hbox hb; have BK412 := A0_ (hbox); have GW412 := zG hg HB; have GE412 := zG hg HB; replace HB := zB HB hb; clear hb hbox hg))
 (try simp only [Act.put, List.setIfInBounds_toArray, List.set_cons_zero, List.set_cons_succ])
 go_cut [32] (fun v32 wc => ∃ (kq : Nat) (x32_3 : Bool), v32 = .bool x32_3 ∧ Aside0 (spec_VoltageValid.j0 kq a1 l2 x32_3 = some r) ∧ Aside0 (kq ≤ k) ∧ Aside0 (wc.heap[gb412]? = some (.cells #[(.slice A0_0 l0_0.length c0_0), (.slice A0_1 l0_1.length c0_1)] 25 (0, 0))) ∧ Aside0 (Below w.heap.size w wc))
 case first =>
  have H := HC4.out; clear HC4; obtain ⟨t413, A6, H⟩ := zbind H
  by_cases c7 : t413 = true
  ·subst c7
   rw [if_pos rfl] at H; obtain ⟨t414, A8, H⟩ := zbind H
   by_cases c9 : t414 = true
   ·subst c9
    rw [if_pos rfl] at H
    by_cases c10 : (wrap64 (a1 * (l0_0.length : Int))) > 12
    ·rw [if_pos c10] at H
     have c10b0 : decide (12 < (wrap64 (a1 * (l0_0.length : Int)))) = true := dT c10
     clear c10
     (first | rw [c10b0] | (simp only [i64_w, i32_w]; rw [c10b0]) | skip)
     have H' := A0_ H; clear H; have hcz11_0 := zc0 BK412; have hcz11_1 := zc1 BK412; have hfz11_0 := kF BK412.out 0; have hfz11_1 := kF BK412.out 1
     go_wp2_with (first | ((with_reducible refine gC (f := 57) rfl ?_); refine zJ (some 9) Try.func57 #[.agg #[.slice A0_0 l0_0.length c0_0, .slice A0_1 l0_1.length c0_1]] ?_; (with_reducible refine (spec_MapValid.calls k _ _ l0_0 _ _ l0_1 true _ ?side1 ?side2 ?side3 ?side4 A6.out).mono ?_); (case side1 => exact zC HR0_0 HB); (case side2 => exact HC0_0.out); (case side3 => exact zC HR0_1 HB); (case side4 => exact HC0_1.out); rintro e w12 ⟨rfl, hb⟩; refine ⟨_, rfl, ?_⟩; replace BK412 := zK BK412 hb; replace HB := zB HB hb; (try clear hb)) | (go_at_call 101; (with_reducible refine (spec_l6In.calls a1 1 6 true _ A8.out).mono ?_); rintro e w' ⟨rfl, ⟨nd, rfl⟩⟩; have hcz13_0 := zc0 BK412; have hcz13_1 := zc1 BK412; have hfz13_0 := kF BK412.out 0; have hfz13_1 := kF BK412.out 1))
     go_meet
     case rel => exact ⟨_, (true), zt, H', zo, ⟨zK_ BK412⟩, ⟨zB_ HB⟩⟩
    rw [if_neg c10] at H
    have c10b0 : decide (12 < (wrap64 (a1 * (l0_0.length : Int)))) = false := dF c10
    clear c10
    (first | rw [c10b0] | (simp only [i64_w, i32_w]; rw [c10b0]) | skip)
    have H' := A0_ H; clear H; have hcz14_0 := zc0 BK412; have hcz14_1 := zc1 BK412; have hfz14_0 := kF BK412.out 0; have hfz14_1 := kF BK412.out 1
    go_wp2_with (first | ((with_reducible refine gC (f := 57) rfl ?_); refine zJ (some 9) Try.func57 #[.agg #[.slice A0_0 l0_0.length c0_0, .slice A0_1 l0_1.length c0_1]] ?_; (with_reducible refine (spec_MapValid.calls k _ _ l0_0 _ _ l0_1 true _ ?side1 ?side2 ?side3 ?side4 A6.out).mono ?_); (case side1 => exact zC HR0_0 HB); (case side2 => exact HC0_0.out); (case side3 => exact zC HR0_1 HB); (case side4 => exact HC0_1.out); rintro e w15 ⟨rfl, hb⟩; refine ⟨_, rfl, ?_⟩; replace BK412 := zK BK412 hb; replace HB := zB HB hb; (try clear hb)) | (go_at_call 101; (with_reducible refine (spec_l6In.calls a1 1 6 true _ A8.out).mono ?_); rintro e w' ⟨rfl, ⟨nd, rfl⟩⟩; have hcz16_0 := zc0 BK412; have hcz16_1 := zc1 BK412; have hfz16_0 := kF BK412.out 0; have hfz16_1 := kF BK412.out 1))
    go_meet
    case rel => exact ⟨_, (((l2.length : Int) != (wrap64 ((l0_1.length : Int) / 2)))), zt, H', zo, ⟨zK_ BK412⟩, ⟨zB_ HB⟩⟩
   replace c9 := Bool.eq_false_iff.mpr c9; subst c9
   rw [if_neg (show ¬ (false = true) by decide)] at H
   have H' := A0_ H; clear H; have hcz17_0 := zc0 BK412; have hcz17_1 := zc1 BK412; have hfz17_0 := kF BK412.out 0; have hfz17_1 := kF BK412.out 1
   go_wp2_with (first | ((with_reducible refine gC (f := 57) rfl ?_); refine zJ (some 9) Try.func57 #[.agg #[.slice A0_0 l0_0.length c0_0, .slice A0_1 l0_1.length c0_1]] ?_; (with_reducible refine (spec_MapValid.calls k _ _ l0_0 _ _ l0_1 true _ ?side1 ?side2 ?side3 ?side4 A6.out).mono ?_); (case side1 => exact zC HR0_0 HB); (case side2 => exact HC0_0.out); (case side3 => exact zC HR0_1 HB); (case side4 => exact HC0_1.out); rintro e w18 ⟨rfl, hb⟩; refine ⟨_, rfl, ?_⟩; replace BK412 := zK BK412 hb; replace HB := zB HB hb; (try clear hb)) | (go_at_call 101; (with_reducible refine (spec_l6In.calls a1 1 6 false _ A8.out).mono ?_); rintro e w' ⟨rfl, ⟨nd, rfl⟩⟩))
   go_meet
   case rel => exact ⟨_, (true), zt, H', zo, ⟨zK_ BK412⟩, ⟨zB_ HB⟩⟩
  replace c7 := Bool.eq_false_iff.mpr c7; subst c7
  rw [if_neg (show ¬ (false = true) by decide)] at H
  have H' := A0_ H; clear H; have hcz19_0 := zc0 BK412; have hcz19_1 := zc1 BK412; have hfz19_0 := kF BK412.out 0; have hfz19_1 := kF BK412.out 1
  go_wp2_with (first | ((with_reducible refine gC (f := 57) rfl ?_); refine zJ (some 9) Try.func57 #[.agg #[.slice A0_0 l0_0.length c0_0, .slice A0_1 l0_1.length c0_1]] ?_; (with_reducible refine (spec_MapValid.calls k _ _ l0_0 _ _ l0_1 false _ ?side1 ?side2 ?side3 ?side4 A6.out).mono ?_); (case side1 => exact zC HR0_0 HB); (case side2 => exact HC0_0.out); (case side3 => exact zC HR0_1 HB); (case side4 => exact HC0_1.out); rintro e w20 ⟨rfl, hb⟩; refine ⟨_, rfl, ?_⟩; replace BK412 := zK BK412 hb; replace HB := zB HB hb; (try clear hb)))
  go_meet
  case rel => exact ⟨_, (true), zt, H', zo, ⟨zK_ BK412⟩, ⟨zB_ HB⟩⟩
 case rest =>
  clear HC4; (try clear c1); (try clear c2); (try clear p2); (try clear c5); (try clear p6); (try clear c7); (try clear c9); (try clear c10); (try clear c10b0); (try clear hcz11_0); (try clear hcz11_1); (try clear hcz13_0); (try clear hcz13_1); (try clear hcz14_0); (try clear hcz14_1); (try clear hcz16_0); (try clear hcz16_1); (try clear hcz17_0); (try clear hcz17_1); (try clear hcz19_0); (try clear hcz19_1); (try clear hfz11_0); (try clear hfz11_1); (try clear hfz13_0); (try clear hfz13_1); (try clear hfz14_0); (try clear hfz14_1); (try clear hfz16_0); (try clear hfz16_1); (try clear hfz17_0); (try clear hfz17_1); (try clear hfz19_0); (try clear hfz19_1); obtain ⟨kq, x32_3, rfl, HA, HJ3, BK412, HB⟩ := hcut
  cases kq with
  | zero => exact absurd HA.out (by simp [spec_VoltageValid.j0])
  | succ kj3 =>
   have H := HA.out; clear HA; simp only [spec_VoltageValid.j0] at H
   by_cases c21 : x32_3 = true
   ·subst c21
    rw [if_pos rfl] at H; obtain rfl := sI H
    go_wp2
    go_ret
    exact ⟨by first | rfl | (simp [*] <;> rfl), zB_ HB⟩
   replace c21 := Bool.eq_false_iff.mpr c21; subst c21
   rw [if_neg (show ¬ (false = true) by decide)] at H
   have H' := A0_ H; clear H
   go_wp2
   go_loopg [7] kj3 (fun kq v7 w' => ∃ (x7_2 : Int), v7 = .int .i64 x7_2 ∧ Aside0 (spec_VoltageValid.l0 kq a1 l2 x7_2 = some r) ∧ Aside0 (kq ≤ kj3) ∧ Aside0 (w'.heap[gb412]? = some (.cells #[(.slice A0_0 l0_0.length c0_0), (.slice A0_1 l0_1.length c0_1)] 25 (0, 0))) ∧ Aside0 (Below w.heap.size w w'))
   case atStart => exact ⟨(0), zt, H', ⟨Nat.le_refl _⟩, ⟨zK_ BK412⟩, ⟨zB_ HB⟩⟩
   case round =>
    clear H'; (try clear c1); (try clear c2); (try clear p2); (try clear c5); (try clear p6); (try clear c7); (try clear c9); (try clear c10); (try clear c10b0); (try clear c21); (try clear hcz11_0); (try clear hcz11_1); (try clear hcz13_0); (try clear hcz13_1); (try clear hcz14_0); (try clear hcz14_1); (try clear hcz16_0); (try clear hcz16_1); (try clear hcz17_0); (try clear hcz17_1); (try clear hcz19_0); (try clear hcz19_1); (try clear hfz11_0); (try clear hfz11_1); (try clear hfz13_0); (try clear hfz13_1); (try clear hfz14_0); (try clear hfz14_1); (try clear hfz16_0); (try clear hfz16_1); (try clear hfz17_0); (try clear hfz17_1); (try clear hfz19_0); (try clear hfz19_1); (try clear p2); (try clear p6); obtain ⟨x7_2, rfl, HA, HK2, BK412, HB⟩ := hrel
    cases gk with
    | zero => exact absurd HA.out (by simp [spec_VoltageValid.l0])
    | succ k2 =>
     have H := HA.out; clear HA; simp only [spec_VoltageValid.l0] at H
     by_cases c22 : x7_2 < (l2.length : Int)
     ·rw [if_pos c22] at H
      have c22b0 := dT c22; clear c22
      by_cases c23 : 0 ≤ x7_2
      ·rw [if_pos c23] at H
       have c23b0 := dT c23; clear c23; obtain ⟨t416, A24, H⟩ := zbind H
       by_cases c25 : t416 = true
       ·subst c25
        rw [if_pos rfl] at H
        by_cases c26 : ((rd_L1 l2 x7_2).length : Int) = a1
        ·rw [if_pos c26] at H
         have c26b0 : (((rd_L1 l2 x7_2).length : Int) == a1) = true := beq_iff_eq.mpr c26
         have c26b1 : (((rd_L1 l2 x7_2).length : Int) != a1) = false := bne_eq_false_iff_eq.mpr c26
         clear c26; have H' := A0_ H; clear H
         have p415 : 0 ≤ (x7_2 : Int) := zd
         have q415 : x7_2 < (l2.length : Int) := zd
         obtain ⟨ad415, A415_0, c415_0, e415, hx415_0, hl415_0, hi415_0⟩ := at_L1 HR2.out x7_2 p415 q415
         cases e415
         try replace hx415_0 := (HB.out.cell (wL w _ hx415_0)).trans hx415_0
         have HR415_0 := A0_ hi415_0; have HC415_0 := A0_ hl415_0; clear hi415_0 hl415_0; replace p415 := eq_true p415; replace q415 := eq_true q415
         go_wp2_with (first | ((with_reducible refine gC (f := 89) rfl ?_); refine zJ (some 43) Try.func89 #[.slice A415_0 (rd_L1 l2 x7_2).length c415_0] ?_; (with_reducible refine (spec_PermValid.calls k2 _ _ (rd_L1 l2 x7_2) true _ ?side1 ?side2 A24.out).mono ?_); (case side1 => exact zC HR415_0 HB); (case side2 => exact HC415_0.out); rintro e w' ⟨rfl, ⟨nd, rfl⟩⟩; refine ⟨_, rfl, ?_⟩; have p417 : 0 ≤ (x7_2 : Int) := zd; have q417 : x7_2 < (l2.length : Int) := zd; obtain ⟨ad417, A417_0, c417_0, e417, hx417_0, hl417_0, hi417_0⟩ := at_L1 HR2.out x7_2 p417 q417; obtain rfl : ad415 = ad417 := (by injection e417); try replace hx417_0 := (HB.out.cell (wL w _ hx417_0)).trans hx417_0; have HR417_0 := A0_ hi417_0; have HC417_0 := A0_ hl417_0; clear hi417_0 hl417_0; replace p417 := eq_true p417; replace q417 := eq_true q417; have ea_ := sI (hx415_0.symm.trans hx417_0); injection ea_ with ea_ en_ ec_; subst ea_; subst ec_; clear en_))
         go_roundg k2
         case measure => have := HJ3.out; have := HK2.out; omega
         case rel => exact ⟨(wrap64 (x7_2 + 1)), zt, H', ⟨by have := HJ3.out; have := HK2.out; omega⟩, ⟨zK_ BK412⟩, ⟨zB_ HB⟩⟩
        rw [if_neg c26] at H
        have c26b0 : (((rd_L1 l2 x7_2).length : Int) == a1) = false := beq_eq_false_iff_ne.mpr c26
        have c26b1 : (((rd_L1 l2 x7_2).length : Int) != a1) = true := bne_iff_ne.mpr c26
        obtain rfl := sI H
        have p415 : 0 ≤ (x7_2 : Int) := zd
        have q415 : x7_2 < (l2.length : Int) := zd
        obtain ⟨ad415, A415_0, c415_0, e415, hx415_0, hl415_0, hi415_0⟩ := at_L1 HR2.out x7_2 p415 q415
        cases e415
        try replace hx415_0 := (HB.out.cell (wL w _ hx415_0)).trans hx415_0
        have HR415_0 := A0_ hi415_0; have HC415_0 := A0_ hl415_0; clear hi415_0 hl415_0; replace p415 := eq_true p415; replace q415 := eq_true q415
        go_wp2_with (first | ((with_reducible refine gC (f := 89) rfl ?_); refine zJ (some 43) Try.func89 #[.slice A415_0 (rd_L1 l2 x7_2).length c415_0] ?_; (with_reducible refine (spec_PermValid.calls k2 _ _ (rd_L1 l2 x7_2) true _ ?side1 ?side2 A24.out).mono ?_); (case side1 => exact zC HR415_0 HB); (case side2 => exact HC415_0.out); rintro e w' ⟨rfl, ⟨nd, rfl⟩⟩; refine ⟨_, rfl, ?_⟩; have p417 : 0 ≤ (x7_2 : Int) := zd; have q417 : x7_2 < (l2.length : Int) := zd; obtain ⟨ad417, A417_0, c417_0, e417, hx417_0, hl417_0, hi417_0⟩ := at_L1 HR2.out x7_2 p417 q417; obtain rfl : ad415 = ad417 := (by injection e417); try replace hx417_0 := (HB.out.cell (wL w _ hx417_0)).trans hx417_0; have HR417_0 := A0_ hi417_0; have HC417_0 := A0_ hl417_0; clear hi417_0 hl417_0; replace p417 := eq_true p417; replace q417 := eq_true q417; have ea_ := sI (hx415_0.symm.trans hx417_0); injection ea_ with ea_ en_ ec_; subst ea_; subst ec_; clear en_))
        go_ret
        exact ⟨by first | rfl | (simp [*] <;> rfl), zB_ HB⟩
       replace c25 := Bool.eq_false_iff.mpr c25; subst c25
       rw [if_neg (show ¬ (false = true) by decide)] at H
       obtain rfl := sI H
       have p415 : 0 ≤ (x7_2 : Int) := zd
       have q415 : x7_2 < (l2.length : Int) := zd
       obtain ⟨ad415, A415_0, c415_0, e415, hx415_0, hl415_0, hi415_0⟩ := at_L1 HR2.out x7_2 p415 q415
       cases e415
       try replace hx415_0 := (HB.out.cell (wL w _ hx415_0)).trans hx415_0
       have HR415_0 := A0_ hi415_0; have HC415_0 := A0_ hl415_0; clear hi415_0 hl415_0; replace p415 := eq_true p415; replace q415 := eq_true q415
       go_wp2_with (first | ((with_reducible refine gC (f := 89) rfl ?_); refine zJ (some 43) Try.func89 #[.slice A415_0 (rd_L1 l2 x7_2).length c415_0] ?_; (with_reducible refine (spec_PermValid.calls k2 _ _ (rd_L1 l2 x7_2) false _ ?side1 ?side2 A24.out).mono ?_); (case side1 => exact zC HR415_0 HB); (case side2 => exact HC415_0.out); rintro e w' ⟨rfl, ⟨nd, rfl⟩⟩; refine ⟨_, rfl, ?_⟩))
       go_ret
       exact ⟨by first | rfl | (simp [*] <;> rfl), zB_ HB⟩
      rw [if_neg c23] at H
      exact absurd H (by simp)
     rw [if_neg c22] at H; have c22b0 := dF c22; clear c22; obtain rfl := sI H
     go_wp2
     go_ret
     exact ⟨by first | rfl | (simp [*] <;> rfl), zB_ HB⟩

end Go.Proofs.Ytmegggomhjgehaa.PFnWinding
