-- Made by a program of this session (wip/tools) out of the loaded program; not trusted: Lean checks it.
import Derived.Test.YtmcgkckdnelcdaaPFnTrivialx0
import Derived.Test.YtmcgkckdnelcdaaPFnTrivialx2
import Derived.Test.YtmcgkckdnelcdaaPFnTrivialx3
-- packed
namespace Go.Proofs.Ytmcgkckdnelcdaa.PFnTrivial
open Go.RowKit Go.Proofs.YtmcgkckdnelcdaaW.PrintWords Go.Proofs.YtmcgkckdnelcdaaW.PrintLast Go.Proofs.YtmcgkckdnelcdaaW.PrintMore
attribute [local go_sem] max2_int min2_int max_two min_two max_three min_three max_four min_four   -- for this text's walks alone
set_option linter.unusedVariables false
set_option linter.unusedSimpArgs false

/-! ### impl_CoverTrivial: function 24 -/
mutual
def impl_CoverTrivial.j0 : Nat → Int → Bool → List Int → List Int → Option ((List (List Int)) × Bool)
  | 0, _, _, _, _ => none
  | k + 1, x1, x25, x197000, x197001 => if x25 = true then (some (([] : List (List Int)), false)) else (impl_CoverTrivial.l0 k x1 (([] : List (List Int))) (wrap64 ((x197001.length : Int) / 2)) 0)
def impl_CoverTrivial.l0 : Nat → Int → List (List Int) → Int → Int → Option ((List (List Int)) × Bool)
  | 0, _, _, _, _ => none
  | k + 1, x1, x6, x30, x31 => if x31 < x30 then ((impl_still.f k x1).bind fun t201 => (if x6.length < 5864062014805 then (impl_CoverTrivial.l0 k x1 (x6 ++ [t201]) x30 (wrap64 (x31 + 1))) else (none))) else (some (x6, true))
end
def impl_CoverTrivial.f (k : Nat) (l0_0 : List Int) (l0_1 : List Int) (a1 : Int) : Option ((List (List Int)) × Bool) := (impl_MapValid.f k l0_0 l0_1).bind fun t197 => (if t197 = true then (if a1 < 1 then (impl_CoverTrivial.j0 k a1 true l0_0 l0_1) else (if a1 > 6 then (impl_CoverTrivial.j0 k a1 true l0_0 l0_1) else (impl_CoverTrivial.j0 k a1 (decide ((wrap64 ((l0_0.length : Int) * a1)) > 12)) l0_0 l0_1))) else (impl_CoverTrivial.j0 k a1 true l0_0 l0_1))
set_option maxHeartbeats 8000000 in
set_option maxRecDepth 100000 in
theorem impl_CoverTrivial.calls (k : Nat) (A0_0 : Option Addr) (c0_0 : Nat) (l0_0 : List Int) (A0_1 : Option Addr) (c0_1 : Nat) (l0_1 : List Int) (a1 : Int) (r1 : List (List Int)) (r2 : Bool) (w : World) (hr0_0 : Kd.C (Kd.int .i64) w A0_0 l0_0.length l0_0) (hc0_0 : l0_0.length ≤ c0_0) (hr0_1 : Kd.C (Kd.int .i64) w A0_1 l0_1.length l0_1) (hc0_1 : l0_1.length ≤ c0_1) (h : impl_CoverTrivial.f k l0_0 l0_1 a1 = some (r1, r2)) :
    Calls Try.prog 24 #[.agg #[.slice A0_0 l0_0.length c0_0, .slice A0_1 l0_1.length c0_1], .int .i64 a1] w fun e w' => ∃ v0_ : Value, e = .returned (.tuple #[v0_, .bool r2]) ∧ Kd.S (Kd.slice 3 (Kd.int .i64)) 22 w' w.heap.size (fun _ => True) v0_ r1 ∧ Below w.heap.size w w' := by
 have hu29 := Try.underlying29; have HR0_0 := A0_ hr0_0; have HC0_0 := A0_ hc0_0; clear hr0_0 hc0_0; have HR0_1 := A0_ hr0_1; have HC0_1 := A0_ hc0_1; clear hr0_1 hc0_1
 have HB := A0_ (Below.refl w.heap.size w)
 have H : ((impl_MapValid.f k l0_0 l0_1).bind fun t197 => (if t197 = true then (if a1 < 1 then (impl_CoverTrivial.j0 k a1 true l0_0 l0_1) else (if a1 > 6 then (impl_CoverTrivial.j0 k a1 true l0_0 l0_1) else (impl_CoverTrivial.j0 k a1 (decide ((wrap64 ((l0_0.length : Int) * a1)) > 12)) l0_0 l0_1))) else (impl_CoverTrivial.j0 k a1 true l0_0 l0_1))) = some (r1, r2) := h
 clear h; have HC3 := A0_ H; clear H
 go_enter Try.func24, Try.ntmps24
 go_upto_region 1 with (first | ((with_reducible refine gD (N := 2) rfl ?_); refine zX (N := 2) (cs := #[.slice A0_0 l0_0.length c0_0, .slice A0_1 l0_1.length c0_1]) (t := 29) ?_; intro gb196 hg w4 hbox hb; have BK196 := A0_ (hbox); have GW196 := zG hg HB; have GE196 := zG hg HB; replace HB := zB HB hb; clear hb hbox hg))
 (try simp only [Act.put, List.setIfInBounds_toArray, List.set_cons_zero, List.set_cons_succ])
 go_cut [25] (fun v25 wc => ∃ (kq : Nat) (x25_2 : Bool), v25 = .bool x25_2 ∧ Aside0 (impl_CoverTrivial.j0 kq a1 x25_2 l0_0 l0_1 = some (r1, r2)) ∧ Aside0 (kq ≤ k) ∧ Aside0 (wc.heap[gb196]? = some (.cells #[(.slice A0_0 l0_0.length c0_0), (.slice A0_1 l0_1.length c0_1)] 29 (0, 0))) ∧ Aside0 (Below w.heap.size w wc))
 case first =>
  have H := HC3.out; clear HC3; obtain ⟨t197, A5, H⟩ := zbind H
  by_cases c6 : t197 = true
  ·subst c6
   have H1 : (if a1 < 1 then (impl_CoverTrivial.j0 k a1 true l0_0 l0_1) else (if a1 > 6 then (impl_CoverTrivial.j0 k a1 true l0_0 l0_1) else (impl_CoverTrivial.j0 k a1 (decide ((wrap64 ((l0_0.length : Int) * a1)) > 12)) l0_0 l0_1))) = some (r1, r2) := by rw [if_pos rfl] at H; exact H
   clear H; have H := H1; clear H1
   by_cases c7 : a1 < 1
   ·rw [if_pos c7] at H
    have c7b0 := dT c7; clear c7
    (first | rw [c7b0] | (simp only [i64_w, i32_w]; rw [c7b0]) | skip)
    have H' := A0_ H; clear H; have hcz8_0 := zc0 BK196; have hcz8_1 := zc1 BK196; have hfz8_0 := kF BK196.out 0; have hfz8_1 := kF BK196.out 1
    go_wp2_with (first | ((with_reducible refine gC (f := 59) rfl ?_); refine zJ (some 8) Try.func59 #[.agg #[.slice A0_0 l0_0.length c0_0, .slice A0_1 l0_1.length c0_1]] ?_; (with_reducible refine (impl_MapValid.calls k (fun k_ => k_ < w.heap.size) _ _ l0_0 (fun k_ => k_ < w.heap.size) _ _ l0_1 true _ ?side1 ?side2 A5.out).mono ?_); (case side1 => exact Kd.V_mk HC0_0.out (Kd.F_below (Kd.C_F (Kd.heap_int .i64) HR0_0.out) (zB_ HB))); (case side2 => exact Kd.V_mk HC0_1.out (Kd.F_below (Kd.C_F (Kd.heap_int .i64) HR0_1.out) (zB_ HB))); rintro e w9 ⟨rfl, hb⟩; refine ⟨_, rfl, ?_⟩; replace BK196 := zK BK196 hb; replace HB := zB HB hb; (try clear hb)))
    go_meet
    case rel => exact ⟨_, (true), zt, H', zo, ⟨zK_ BK196⟩, ⟨zB_ HB⟩⟩
   rw [if_neg c7] at H; have c7b0 := dF c7; clear c7
   (first | rw [c7b0] | (simp only [i64_w, i32_w]; rw [c7b0]) | skip)
   by_cases c10 : a1 > 6
   ·rw [if_pos c10] at H
    have c10b0 : decide (6 < a1) = true := dT c10
    clear c10; have H' := A0_ H; clear H; have hcz11_0 := zc0 BK196; have hcz11_1 := zc1 BK196; have hfz11_0 := kF BK196.out 0; have hfz11_1 := kF BK196.out 1
    go_wp2_with (first | ((with_reducible refine gC (f := 59) rfl ?_); refine zJ (some 8) Try.func59 #[.agg #[.slice A0_0 l0_0.length c0_0, .slice A0_1 l0_1.length c0_1]] ?_; (with_reducible refine (impl_MapValid.calls k (fun k_ => k_ < w.heap.size) _ _ l0_0 (fun k_ => k_ < w.heap.size) _ _ l0_1 true _ ?side1 ?side2 A5.out).mono ?_); (case side1 => exact Kd.V_mk HC0_0.out (Kd.F_below (Kd.C_F (Kd.heap_int .i64) HR0_0.out) (zB_ HB))); (case side2 => exact Kd.V_mk HC0_1.out (Kd.F_below (Kd.C_F (Kd.heap_int .i64) HR0_1.out) (zB_ HB))); rintro e w12 ⟨rfl, hb⟩; refine ⟨_, rfl, ?_⟩; replace BK196 := zK BK196 hb; replace HB := zB HB hb; (try clear hb)))
    go_meet
    case rel => exact ⟨_, (true), zt, H', zo, ⟨zK_ BK196⟩, ⟨zB_ HB⟩⟩
   rw [if_neg c10] at H
   have c10b0 : decide (6 < a1) = false := dF c10
   clear c10; have H' := A0_ H; clear H; have hcz13_0 := zc0 BK196; have hcz13_1 := zc1 BK196; have hfz13_0 := kF BK196.out 0; have hfz13_1 := kF BK196.out 1
   go_wp2_with (first | ((with_reducible refine gC (f := 59) rfl ?_); refine zJ (some 8) Try.func59 #[.agg #[.slice A0_0 l0_0.length c0_0, .slice A0_1 l0_1.length c0_1]] ?_; (with_reducible refine (impl_MapValid.calls k (fun k_ => k_ < w.heap.size) _ _ l0_0 (fun k_ => k_ < w.heap.size) _ _ l0_1 true _ ?side1 ?side2 A5.out).mono ?_); (case side1 => exact Kd.V_mk HC0_0.out (Kd.F_below (Kd.C_F (Kd.heap_int .i64) HR0_0.out) (zB_ HB))); (case side2 => exact Kd.V_mk HC0_1.out (Kd.F_below (Kd.C_F (Kd.heap_int .i64) HR0_1.out) (zB_ HB))); rintro e w14 ⟨rfl, hb⟩; refine ⟨_, rfl, ?_⟩; replace BK196 := zK BK196 hb; replace HB := zB HB hb; (try clear hb); have hcz15_0 := zc0 BK196; have hcz15_1 := zc1 BK196; have hfz15_0 := kF BK196.out 0; have hfz15_1 := kF BK196.out 1))
   go_meet
   case rel => exact ⟨_, (decide ((wrap64 ((l0_0.length : Int) * a1)) > 12)), zt, H', zo, ⟨zK_ BK196⟩, ⟨zB_ HB⟩⟩
  replace c6 := Bool.eq_false_iff.mpr c6; subst c6
  have H1 : (impl_CoverTrivial.j0 k a1 true l0_0 l0_1) = some (r1, r2) := by rw [if_neg (show ¬ (false = true) by decide)] at H; exact H
  clear H; have H := H1; clear H1; have H' := A0_ H; clear H; have hcz16_0 := zc0 BK196; have hcz16_1 := zc1 BK196; have hfz16_0 := kF BK196.out 0; have hfz16_1 := kF BK196.out 1
  go_wp2_with (first | ((with_reducible refine gC (f := 59) rfl ?_); refine zJ (some 8) Try.func59 #[.agg #[.slice A0_0 l0_0.length c0_0, .slice A0_1 l0_1.length c0_1]] ?_; (with_reducible refine (impl_MapValid.calls k (fun k_ => k_ < w.heap.size) _ _ l0_0 (fun k_ => k_ < w.heap.size) _ _ l0_1 false _ ?side1 ?side2 A5.out).mono ?_); (case side1 => exact Kd.V_mk HC0_0.out (Kd.F_below (Kd.C_F (Kd.heap_int .i64) HR0_0.out) (zB_ HB))); (case side2 => exact Kd.V_mk HC0_1.out (Kd.F_below (Kd.C_F (Kd.heap_int .i64) HR0_1.out) (zB_ HB))); rintro e w17 ⟨rfl, hb⟩; refine ⟨_, rfl, ?_⟩; replace BK196 := zK BK196 hb; replace HB := zB HB hb; (try clear hb)))
  go_meet
  case rel => exact ⟨_, (true), zt, H', zo, ⟨zK_ BK196⟩, ⟨zB_ HB⟩⟩
 case rest =>
  clear HC3; (try clear c1); (try clear c2); (try clear p2); (try clear c5); (try clear c6); (try clear p6); (try clear c7); (try clear c7b0); (try clear c10); (try clear c10b0); (try clear hcz11_0); (try clear hcz11_1); (try clear hcz13_0); (try clear hcz13_1); (try clear hcz15_0); (try clear hcz15_1); (try clear hcz16_0); (try clear hcz16_1); (try clear hcz8_0); (try clear hcz8_1); (try clear hfz11_0); (try clear hfz11_1); (try clear hfz13_0); (try clear hfz13_1); (try clear hfz15_0); (try clear hfz15_1); (try clear hfz16_0); (try clear hfz16_1); (try clear hfz8_0); (try clear hfz8_1); obtain ⟨kq, x25_2, rfl, HA, HJ2, BK196, HB⟩ := hcut
  cases kq with
  | zero => exact absurd HA.out (by simp [impl_CoverTrivial.j0])
  | succ kj2 =>
   have H := HA.out; clear HA; simp only [impl_CoverTrivial.j0] at H
   by_cases c18 : x25_2 = true
   ·subst c18
    have H1 : (some (([] : List (List Int)), false)) = some (r1, r2) := by rw [if_pos rfl] at H; exact H
    clear H; have H := H1; clear H1; simp only [Option.some.injEq, Prod.mk.injEq] at H; obtain ⟨rfl, rfl⟩ := H
    go_wp2
    go_ret2
    exact ⟨_, by first | rfl | (simp [*] <;> rfl), by first | exact Kd.S_nil _ _ _ _ _ | exact Kd.N_nil _ _ _ _ _ | exact Kd.V_nil _ _ _ _ _ | exact Kd.Q_nil _ _ _ _ _ | exact Kd.R_nil _ _ _ _ _, zB_ HB⟩
   replace c18 := Bool.eq_false_iff.mpr c18; subst c18
   have H1 : (impl_CoverTrivial.l0 kj2 a1 (([] : List (List Int))) (wrap64 ((l0_1.length : Int) / 2)) 0) = some (r1, r2) := by rw [if_neg (show ¬ (false = true) by decide)] at H; exact H
   clear H; have H := H1; clear H1
   obtain ⟨y198, hy198⟩ : ∃ y_ : List (List Int), y_ = (([] : List (List Int))) := ⟨_, rfl⟩
   replace H : (impl_CoverTrivial.l0 kj2 a1 y198 (wrap64 ((l0_1.length : Int) / 2)) 0) = some (r1, r2) := zH hy198 H
   have Ny198 := A0_ hy198; clear hy198; have H' := A0_ H; clear H
   go_wp2_with (first | ((with_reducible refine gD (N := 26) rfl ?_); refine Kd.S_lit (Kd.slice 3 (Kd.int .i64)) _ 22 ?hg (N := 26) ?hd (xs := ([] : List (List Int))) (inner := []) (ok := fun _ => True) (okp := fun _ => True) ?hr ?hp (fun _ hk => hk) trivial (Below.refl _ _) (Nat.le_refl _) (by simp) ?_; (case hd => rfl); (case hg => rfl); (case hr => first | (go_simp; done) | (go_simp; rfl)); (case hp => exact (Reps.none _ _)); intro v199 w19 ho20 hb hg_ hnew_; clear hg_ hnew_; (first | rw [← Ny198.out] at ho20 | (simp only [Int.reduceToNat] at ho20; rw [← Ny198.out] at ho20)); have HO200 := A0_ (Kd.S_lower ho20 (bZ (zB_ HB))); replace BK196 := zK BK196 hb; replace HB := zB HB hb; clear hb ho20; have hcz21_0 := zc0 BK196; have hcz21_1 := zc1 BK196; have hfz21_0 := kF BK196.out 0; have hfz21_1 := kF BK196.out 1))
   go_loopg [6, 31] kj2 (fun kq v6 v31 w' => ∃ (x6_2 : List (List Int)) (x31_2 : Int), v31 = .int .i64 x31_2 ∧ Aside0 (impl_CoverTrivial.l0 kq a1 x6_2 (wrap64 ((l0_1.length : Int) / 2)) x31_2 = some (r1, r2)) ∧ Aside0 (kq ≤ kj2) ∧ Aside0 (Kd.S (Kd.slice 3 (Kd.int .i64)) 22 w' w.heap.size (fun _ => True) v6 x6_2) ∧ Aside0 (w'.heap[gb196]? = some (.cells #[(.slice A0_0 l0_0.length c0_0), (.slice A0_1 l0_1.length c0_1)] 29 (0, 0))) ∧ Aside0 (Below w.heap.size w w'))
   case atStart => exact ⟨(y198), (0), zt, H', ⟨Nat.le_refl _⟩, ⟨zS_ HO200⟩, ⟨zK_ BK196⟩, ⟨zB_ HB⟩⟩
   case round =>
    clear H'; (try clear c1); (try clear c2); (try clear p2); (try clear c5); (try clear c6); (try clear p6); (try clear c7); (try clear c7b0); (try clear c10); (try clear c10b0); (try clear c18); (try clear hcz11_0); (try clear hcz11_1); (try clear hcz13_0); (try clear hcz13_1); (try clear hcz15_0); (try clear hcz15_1); (try clear hcz16_0); (try clear hcz16_1); (try clear hcz21_0); (try clear hcz21_1); (try clear hcz8_0); (try clear hcz8_1); (try clear hfz11_0); (try clear hfz11_1); (try clear hfz13_0); (try clear hfz13_1); (try clear hfz15_0); (try clear hfz15_1); (try clear hfz16_0); (try clear hfz16_1); (try clear hfz21_0); (try clear hfz21_1); (try clear hfz8_0); (try clear hfz8_1); (try clear p2); (try clear p6); obtain ⟨x6_2, x31_2, rfl, HA, HK2, HO_6, BK196, HB⟩ := hrel
    cases gk with
    | zero => exact absurd HA.out (by simp [impl_CoverTrivial.l0])
    | succ k2 =>
     have H := HA.out; clear HA; simp only [impl_CoverTrivial.l0] at H
     by_cases c22 : x31_2 < (wrap64 ((l0_1.length : Int) / 2))
     ·rw [if_pos c22] at H
      have c22b0 := dT c22; clear c22; obtain ⟨t201, A23, H⟩ := zbind H
      by_cases c24 : x6_2.length < 5864062014805
      ·rw [if_pos c24] at H
       have LMc24 := A0_ c24; clear c24
       obtain ⟨y204, hy204⟩ : ∃ y_ : List (List Int), y_ = (x6_2 ++ [t201]) := ⟨_, rfl⟩
       replace H : (impl_CoverTrivial.l0 k2 a1 y204 (wrap64 ((l0_1.length : Int) / 2)) (wrap64 (x31_2 + 1))) = some (r1, r2) := zH hy204 H
       have Ny204 := A0_ hy204; clear hy204; have H' := A0_ H; clear H
       go_wp2_with (first | ((with_reducible refine gC (f := 62) rfl ?_); refine zJ (some 35) Try.func62 #[.int .i64 a1] ?_; (with_reducible refine (impl_still.calls k2 a1 t201 _ A23.out).mono ?_); rintro e w25 ⟨v202, rfl, ho0, hb⟩; refine ⟨_, rfl, ?_⟩; replace HO_6 := A0_ (Kd.S_elder' (zS_ HO_6) (Kd.R_base ho0) hb); have HO203 := A0_ (rL ho0 (bZ (zB_ HB))); replace BK196 := zK BK196 hb; replace HB := zB HB hb; (try clear hb); (try clear ho0); obtain ⟨Ao27, co27, eo27⟩ := rS HO203.out; subst eo27) | ((with_reducible refine gB (b := .append) (xs := #[.tmp 33, .tmp 36]) rfl ?_); at_builtin; refine Kd.S_append (Kd.slice 3 (Kd.int .i64)) (w0 := w) w.heap.size rfl (.tmp 33) (.tmp 36) 25 22 (.slice none 0 0) 24 rfl Try.underlying25 info22 rfl (by decide) (by omega) u6 x6_2 t201 [.slice Ao27 t201.length co27] (fun _ => True) (fun k_ => some k_ = (.slice Ao27 t201.length co27 : Value).ownBlock) rfl rfl ?aP (fun k_ hk_ => ((rM (ok' := fun k_ => ((fun _ => True)) k_ ∧ some k_ ≠ (u6 : Value).ownBlock) (Kd.R_apart' (HO203.out) (Kd.S_typed HO_6.out) (by decide)) (fun k_ hk => ⟨trivial, hk.2⟩))).1 k_ hk_.symm) ?aF ?aO ?aB ?aS ?aL ?_; (case aP => exact Kd.M_row (rM (Kd.R_tight rfl (rM (ok' := fun k_ => ((fun _ => True)) k_ ∧ some k_ ≠ (u6 : Value).ownBlock) (Kd.R_apart' (HO203.out) (Kd.S_typed HO_6.out) (by decide)) (fun k_ hk => ⟨trivial, hk.2⟩))) (fun _ h_ => h_))); (case aB => exact (zB_ HB)); (case aF => exact (fun _ _ => trivial)); (case aO => exact (zmS HO_6 (fun k_ hk => ⟨trivial, fun e_ => hk.2 e_⟩))); (case aS => exact (bZ (zB_ HB))); (case aL => have := LMc24.out; omega); intro v205 w26 ho hb hg hat; rw [← Ny204.out] at ho; replace BK196 := A0_ (blk_grown (g := gb196) (o := .cells #[.slice A0_0 l0_0.length c0_0, .slice A0_1 l0_1.length c0_1] 29 (0, 0)) (zK_ BK196) hg (Kd.S_ne HO_6.out BK196.out (by decide))); replace HB := A0_ (hb); have HO206 := A0_ (ho); clear HO_6 HO203 ho hb hg hat))
       go_roundg k2
       case measure => have := HJ2.out; have := HK2.out; omega
       case rel => exact ⟨(y204), (wrap64 (x31_2 + 1)), zt, H', ⟨by have := HJ2.out; have := HK2.out; omega⟩, ⟨zS_ HO206⟩, ⟨zK_ BK196⟩, ⟨zB_ HB⟩⟩
      rw [if_neg c24] at H
      exact absurd H (by simp)
     rw [if_neg c22] at H; have c22b0 := dF c22; clear c22; simp only [Option.some.injEq, Prod.mk.injEq] at H; obtain ⟨rfl, rfl⟩ := H
     go_wp2
     go_ret2
     exact ⟨_, by first | rfl | (simp [*] <;> rfl), zS_ HO_6, zB_ HB⟩

/-! ### impl_VoltageValid: function 20 -/
mutual
def impl_VoltageValid.j0 : Nat → Int → List (List Int) → Bool → Option (Bool)
  | 0, _, _, _ => none
  | k + 1, x1, x2, x36 => if x36 = true then (some false) else (impl_VoltageValid.l0 k x1 x2 (x2.length : Int) 0)
def impl_VoltageValid.l0 : Nat → Int → List (List Int) → Int → Int → Option (Bool)
  | 0, _, _, _, _ => none
  | k + 1, x1, x37, x38, x39 => if x39 < x38 then (if 0 ≤ x39 then (if x39 < (x37.length : Int) then ((impl_PermValid.f (rd_L1 x37 x39)).bind fun t210 => (if t210 = true then (if ((rd_L1 x37 x39).length : Int) = x1 then (impl_VoltageValid.l0 k x1 x37 x38 (wrap64 (x39 + 1))) else (some false)) else (some false))) else (none)) else (none)) else (some true)
end
def impl_VoltageValid.f (k : Nat) (l0_0 : List Int) (l0_1 : List Int) (a1 : Int) (l2 : List (List Int)) : Option (Bool) := (impl_MapValid.f k l0_0 l0_1).bind fun t208 => (if t208 = true then (if a1 < 1 then (impl_VoltageValid.j0 k a1 l2 true) else (if a1 > 6 then (impl_VoltageValid.j0 k a1 l2 true) else (if (wrap64 ((l0_0.length : Int) * a1)) > 12 then (impl_VoltageValid.j0 k a1 l2 true) else (impl_VoltageValid.j0 k a1 l2 ((l2.length : Int) != (wrap64 ((l0_1.length : Int) / 2))))))) else (impl_VoltageValid.j0 k a1 l2 true))
set_option maxHeartbeats 8000000 in
set_option maxRecDepth 100000 in
theorem impl_VoltageValid.calls (k : Nat) (A0_0 : Option Addr) (c0_0 : Nat) (l0_0 : List Int) (A0_1 : Option Addr) (c0_1 : Nat) (l0_1 : List Int) (a1 : Int) (A2 : Option Addr) (c2 : Nat) (l2 : List (List Int)) (r : Bool) (w : World) (hr0_0 : Kd.C (Kd.int .i64) w A0_0 l0_0.length l0_0) (hc0_0 : l0_0.length ≤ c0_0) (hr0_1 : Kd.C (Kd.int .i64) w A0_1 l0_1.length l0_1) (hc0_1 : l0_1.length ≤ c0_1) (hr2 : Kd.C (Kd.slice 3 (Kd.int .i64)) w A2 l2.length l2) (hc2 : l2.length ≤ c2) (h : impl_VoltageValid.f k l0_0 l0_1 a1 l2 = some r) :
    Calls Try.prog 20 #[.agg #[.slice A0_0 l0_0.length c0_0, .slice A0_1 l0_1.length c0_1], .int .i64 a1, .slice A2 l2.length c2] w fun e w' => e = .returned (.bool r) ∧ Below w.heap.size w w' := by
 have hu29 := Try.underlying29; have HR0_0 := A0_ hr0_0; have HC0_0 := A0_ hc0_0; clear hr0_0 hc0_0; have HR0_1 := A0_ hr0_1; have HC0_1 := A0_ hc0_1; clear hr0_1 hc0_1; have HR2 := A0_ hr2; have HC2 := A0_ hc2; clear hr2 hc2
 have HB := A0_ (Below.refl w.heap.size w)
 have H : ((impl_MapValid.f k l0_0 l0_1).bind fun t208 => (if t208 = true then (if a1 < 1 then (impl_VoltageValid.j0 k a1 l2 true) else (if a1 > 6 then (impl_VoltageValid.j0 k a1 l2 true) else (if (wrap64 ((l0_0.length : Int) * a1)) > 12 then (impl_VoltageValid.j0 k a1 l2 true) else (impl_VoltageValid.j0 k a1 l2 ((l2.length : Int) != (wrap64 ((l0_1.length : Int) / 2))))))) else (impl_VoltageValid.j0 k a1 l2 true))) = some r := h
 clear h; have HC4 := A0_ H; clear H
 go_enter Try.func20, Try.ntmps20
 go_upto_region 1 with (first | ((with_reducible refine gD (N := 3) rfl ?_); refine zX (N := 3) (cs := #[.slice A0_0 l0_0.length c0_0, .slice A0_1 l0_1.length c0_1]) (t := 29) ?_; intro gb207 hg w5 hbox hb; have BK207 := A0_ (hbox); have GW207 := zG hg HB; have GE207 := zG hg HB; replace HB := zB HB hb; clear hb hbox hg))
 (try simp only [Act.put, List.setIfInBounds_toArray, List.set_cons_zero, List.set_cons_succ])
 go_cut [36] (fun v36 wc => ∃ (kq : Nat) (x36_3 : Bool), v36 = .bool x36_3 ∧ Aside0 (impl_VoltageValid.j0 kq a1 l2 x36_3 = some r) ∧ Aside0 (kq ≤ k) ∧ Aside0 (wc.heap[gb207]? = some (.cells #[(.slice A0_0 l0_0.length c0_0), (.slice A0_1 l0_1.length c0_1)] 29 (0, 0))) ∧ Aside0 (Below w.heap.size w wc))
 case first =>
  have H := HC4.out; clear HC4; obtain ⟨t208, A6, H⟩ := zbind H
  by_cases c7 : t208 = true
  ·subst c7
   rw [if_pos rfl] at H
   by_cases c8 : a1 < 1
   ·rw [if_pos c8] at H
    have c8b0 := dT c8; clear c8
    (first | rw [c8b0] | (simp only [i64_w, i32_w]; rw [c8b0]) | skip)
    have H' := A0_ H; clear H; have hcz9_0 := zc0 BK207; have hcz9_1 := zc1 BK207; have hfz9_0 := kF BK207.out 0; have hfz9_1 := kF BK207.out 1
    go_wp2_with (first | ((with_reducible refine gC (f := 59) rfl ?_); refine zJ (some 10) Try.func59 #[.agg #[.slice A0_0 l0_0.length c0_0, .slice A0_1 l0_1.length c0_1]] ?_; (with_reducible refine (impl_MapValid.calls k (fun k_ => k_ < w.heap.size) _ _ l0_0 (fun k_ => k_ < w.heap.size) _ _ l0_1 true _ ?side1 ?side2 A6.out).mono ?_); (case side1 => exact Kd.V_mk HC0_0.out (Kd.F_below (Kd.C_F (Kd.heap_int .i64) HR0_0.out) (zB_ HB))); (case side2 => exact Kd.V_mk HC0_1.out (Kd.F_below (Kd.C_F (Kd.heap_int .i64) HR0_1.out) (zB_ HB))); rintro e w10 ⟨rfl, hb⟩; refine ⟨_, rfl, ?_⟩; replace BK207 := zK BK207 hb; replace HB := zB HB hb; (try clear hb)))
    go_meet
    case rel => exact ⟨_, (true), zt, H', zo, ⟨zK_ BK207⟩, ⟨zB_ HB⟩⟩
   rw [if_neg c8] at H; have c8b0 := dF c8; clear c8
   (first | rw [c8b0] | (simp only [i64_w, i32_w]; rw [c8b0]) | skip)
   by_cases c11 : a1 > 6
   ·rw [if_pos c11] at H
    have c11b0 : decide (6 < a1) = true := dT c11
    clear c11; have H' := A0_ H; clear H; have hcz12_0 := zc0 BK207; have hcz12_1 := zc1 BK207; have hfz12_0 := kF BK207.out 0; have hfz12_1 := kF BK207.out 1
    go_wp2_with (first | ((with_reducible refine gC (f := 59) rfl ?_); refine zJ (some 10) Try.func59 #[.agg #[.slice A0_0 l0_0.length c0_0, .slice A0_1 l0_1.length c0_1]] ?_; (with_reducible refine (impl_MapValid.calls k (fun k_ => k_ < w.heap.size) _ _ l0_0 (fun k_ => k_ < w.heap.size) _ _ l0_1 true _ ?side1 ?side2 A6.out).mono ?_); (case side1 => exact Kd.V_mk HC0_0.out (Kd.F_below (Kd.C_F (Kd.heap_int .i64) HR0_0.out) (zB_ HB))); (case side2 => exact Kd.V_mk HC0_1.out (Kd.F_below (Kd.C_F (Kd.heap_int .i64) HR0_1.out) (zB_ HB))); rintro e w13 ⟨rfl, hb⟩; refine ⟨_, rfl, ?_⟩; replace BK207 := zK BK207 hb; replace HB := zB HB hb; (try clear hb)))
    go_meet
    case rel => exact ⟨_, (true), zt, H', zo, ⟨zK_ BK207⟩, ⟨zB_ HB⟩⟩
   rw [if_neg c11] at H
   have c11b0 : decide (6 < a1) = false := dF c11
   clear c11
   by_cases c14 : (wrap64 ((l0_0.length : Int) * a1)) > 12
   ·rw [if_pos c14] at H
    have c14b0 : decide (12 < (wrap64 ((l0_0.length : Int) * a1))) = true := dT c14
    clear c14; have H' := A0_ H; clear H; have hcz15_0 := zc0 BK207; have hcz15_1 := zc1 BK207; have hfz15_0 := kF BK207.out 0; have hfz15_1 := kF BK207.out 1
    go_wp2_with (first | ((with_reducible refine gC (f := 59) rfl ?_); refine zJ (some 10) Try.func59 #[.agg #[.slice A0_0 l0_0.length c0_0, .slice A0_1 l0_1.length c0_1]] ?_; (with_reducible refine (impl_MapValid.calls k (fun k_ => k_ < w.heap.size) _ _ l0_0 (fun k_ => k_ < w.heap.size) _ _ l0_1 true _ ?side1 ?side2 A6.out).mono ?_); (case side1 => exact Kd.V_mk HC0_0.out (Kd.F_below (Kd.C_F (Kd.heap_int .i64) HR0_0.out) (zB_ HB))); (case side2 => exact Kd.V_mk HC0_1.out (Kd.F_below (Kd.C_F (Kd.heap_int .i64) HR0_1.out) (zB_ HB))); rintro e w16 ⟨rfl, hb⟩; refine ⟨_, rfl, ?_⟩; replace BK207 := zK BK207 hb; replace HB := zB HB hb; (try clear hb); have hcz17_0 := zc0 BK207; have hcz17_1 := zc1 BK207; have hfz17_0 := kF BK207.out 0; have hfz17_1 := kF BK207.out 1))
    go_meet
    case rel => exact ⟨_, (true), zt, H', zo, ⟨zK_ BK207⟩, ⟨zB_ HB⟩⟩
   rw [if_neg c14] at H
   have c14b0 : decide (12 < (wrap64 ((l0_0.length : Int) * a1))) = false := dF c14
   clear c14; have H' := A0_ H; clear H; have hcz18_0 := zc0 BK207; have hcz18_1 := zc1 BK207; have hfz18_0 := kF BK207.out 0; have hfz18_1 := kF BK207.out 1
   go_wp2_with (first | ((with_reducible refine gC (f := 59) rfl ?_); refine zJ (some 10) Try.func59 #[.agg #[.slice A0_0 l0_0.length c0_0, .slice A0_1 l0_1.length c0_1]] ?_; (with_reducible refine (impl_MapValid.calls k (fun k_ => k_ < w.heap.size) _ _ l0_0 (fun k_ => k_ < w.heap.size) _ _ l0_1 true _ ?side1 ?side2 A6.out).mono ?_); (case side1 => exact Kd.V_mk HC0_0.out (Kd.F_below (Kd.C_F (Kd.heap_int .i64) HR0_0.out) (zB_ HB))); (case side2 => exact Kd.V_mk HC0_1.out (Kd.F_below (Kd.C_F (Kd.heap_int .i64) HR0_1.out) (zB_ HB))); rintro e w19 ⟨rfl, hb⟩; refine ⟨_, rfl, ?_⟩; replace BK207 := zK BK207 hb; replace HB := zB HB hb; (try clear hb); have hcz20_0 := zc0 BK207; have hcz20_1 := zc1 BK207; have hfz20_0 := kF BK207.out 0; have hfz20_1 := kF BK207.out 1))
   go_meet
   case rel => exact ⟨_, (((l2.length : Int) != (wrap64 ((l0_1.length : Int) / 2)))), zt, H', zo, ⟨zK_ BK207⟩, ⟨zB_ HB⟩⟩
  replace c7 := Bool.eq_false_iff.mpr c7; subst c7
  rw [if_neg (show ¬ (false = true) by decide)] at H
  have H' := A0_ H; clear H; have hcz21_0 := zc0 BK207; have hcz21_1 := zc1 BK207; have hfz21_0 := kF BK207.out 0; have hfz21_1 := kF BK207.out 1
  go_wp2_with (first | ((with_reducible refine gC (f := 59) rfl ?_); refine zJ (some 10) Try.func59 #[.agg #[.slice A0_0 l0_0.length c0_0, .slice A0_1 l0_1.length c0_1]] ?_; (with_reducible refine (impl_MapValid.calls k (fun k_ => k_ < w.heap.size) _ _ l0_0 (fun k_ => k_ < w.heap.size) _ _ l0_1 false _ ?side1 ?side2 A6.out).mono ?_); (case side1 => exact Kd.V_mk HC0_0.out (Kd.F_below (Kd.C_F (Kd.heap_int .i64) HR0_0.out) (zB_ HB))); (case side2 => exact Kd.V_mk HC0_1.out (Kd.F_below (Kd.C_F (Kd.heap_int .i64) HR0_1.out) (zB_ HB))); rintro e w22 ⟨rfl, hb⟩; refine ⟨_, rfl, ?_⟩; replace BK207 := zK BK207 hb; replace HB := zB HB hb; (try clear hb)))
  go_meet
  case rel => exact ⟨_, (true), zt, H', zo, ⟨zK_ BK207⟩, ⟨zB_ HB⟩⟩
 case rest =>
  clear HC4; (try clear c1); (try clear c2); (try clear p2); (try clear c5); (try clear p6); (try clear c7); (try clear c8); (try clear c8b0); (try clear c11); (try clear c11b0); (try clear c14); (try clear c14b0); (try clear c20); (try clear hcz12_0); (try clear hcz12_1); (try clear hcz15_0); (try clear hcz15_1); (try clear hcz17_0); (try clear hcz17_1); (try clear hcz18_0); (try clear hcz18_1); (try clear hcz20_0); (try clear hcz20_1); (try clear hcz21_0); (try clear hcz21_1); (try clear hcz9_0); (try clear hcz9_1); (try clear hfz12_0); (try clear hfz12_1); (try clear hfz15_0); (try clear hfz15_1); (try clear hfz17_0); (try clear hfz17_1); (try clear hfz18_0); (try clear hfz18_1); (try clear hfz20_0); (try clear hfz20_1); (try clear hfz21_0); (try clear hfz21_1); (try clear hfz9_0); (try clear hfz9_1); obtain ⟨kq, x36_3, rfl, HA, HJ3, BK207, HB⟩ := hcut
  cases kq with
  | zero => exact absurd HA.out (by simp [impl_VoltageValid.j0])
  | succ kj3 =>
   have H := HA.out; clear HA; simp only [impl_VoltageValid.j0] at H
   by_cases c23 : x36_3 = true
   ·subst c23
    rw [if_pos rfl] at H; obtain rfl := sI H
    go_wp2
    go_ret
    exact ⟨by first | rfl | (simp [*] <;> rfl), zB_ HB⟩
   replace c23 := Bool.eq_false_iff.mpr c23; subst c23
   rw [if_neg (show ¬ (false = true) by decide)] at H
   have H' := A0_ H; clear H
   go_wp2
   go_loopg [39] kj3 (fun kq v39 w' => ∃ (x39_2 : Int), v39 = .int .i64 x39_2 ∧ Aside0 (impl_VoltageValid.l0 kq a1 l2 (l2.length : Int) x39_2 = some r) ∧ Aside0 (kq ≤ kj3) ∧ Aside0 (w'.heap[gb207]? = some (.cells #[(.slice A0_0 l0_0.length c0_0), (.slice A0_1 l0_1.length c0_1)] 29 (0, 0))) ∧ Aside0 (Below w.heap.size w w'))
   case atStart => exact ⟨(0), zt, H', ⟨Nat.le_refl _⟩, ⟨zK_ BK207⟩, ⟨zB_ HB⟩⟩
   case round =>
    clear H'; (try clear c1); (try clear c2); (try clear p2); (try clear c5); (try clear p6); (try clear c7); (try clear c8); (try clear c8b0); (try clear c11); (try clear c11b0); (try clear c14); (try clear c14b0); (try clear c20); (try clear c23); (try clear hcz12_0); (try clear hcz12_1); (try clear hcz15_0); (try clear hcz15_1); (try clear hcz17_0); (try clear hcz17_1); (try clear hcz18_0); (try clear hcz18_1); (try clear hcz20_0); (try clear hcz20_1); (try clear hcz21_0); (try clear hcz21_1); (try clear hcz9_0); (try clear hcz9_1); (try clear hfz12_0); (try clear hfz12_1); (try clear hfz15_0); (try clear hfz15_1); (try clear hfz17_0); (try clear hfz17_1); (try clear hfz18_0); (try clear hfz18_1); (try clear hfz20_0); (try clear hfz20_1); (try clear hfz21_0); (try clear hfz21_1); (try clear hfz9_0); (try clear hfz9_1); (try clear p2); (try clear p6); obtain ⟨x39_2, rfl, HA, HK2, BK207, HB⟩ := hrel
    cases gk with
    | zero => exact absurd HA.out (by simp [impl_VoltageValid.l0])
    | succ k2 =>
     have H := HA.out; clear HA; simp only [impl_VoltageValid.l0] at H
     by_cases c24 : x39_2 < (l2.length : Int)
     ·rw [if_pos c24] at H
      have c24b0 := dT c24; clear c24
      by_cases c25 : 0 ≤ x39_2
      ·rw [if_pos c25] at H
       have c25b0 := dT c25; clear c25
       by_cases c26 : x39_2 < (l2.length : Int)
       ·rw [if_pos c26] at H
        have c26b0 := dT c26; clear c26; obtain ⟨t210, A27, H⟩ := zbind H
        by_cases c28 : t210 = true
        ·subst c28
         rw [if_pos rfl] at H
         by_cases c29 : ((rd_L1 l2 x39_2).length : Int) = a1
         ·rw [if_pos c29] at H
          have c29b0 : (((rd_L1 l2 x39_2).length : Int) == a1) = true := beq_iff_eq.mpr c29
          have c29b1 : (((rd_L1 l2 x39_2).length : Int) != a1) = false := bne_eq_false_iff_eq.mpr c29
          clear c29; have H' := A0_ H; clear H
          have p209 : 0 ≤ (x39_2 : Int) := zd
          have q209 : x39_2 < (l2.length : Int) := zd
          obtain ⟨ad209, A209_0, c209_0, e209, hx209_0, hl209_0, hi209_0⟩ := at_L1 HR2.out x39_2 p209 q209
          cases e209
          try replace hx209_0 := (HB.out.cell (wL w _ hx209_0)).trans hx209_0
          have HR209_0 := A0_ hi209_0; have HC209_0 := A0_ hl209_0; clear hi209_0 hl209_0; replace p209 := eq_true p209; replace q209 := eq_true q209
          go_wp2_with (first | ((with_reducible refine gC (f := 60) rfl ?_); refine zJ (some 44) Try.func60 #[.slice A209_0 (rd_L1 l2 x39_2).length c209_0] ?_; (with_reducible refine (impl_PermValid.calls _ _ (rd_L1 l2 x39_2) true _ ?side1 ?side2 A27.out).mono ?_); (case side1 => exact zC HR209_0 HB); (case side2 => exact HC209_0.out); rintro e w30 ⟨rfl, hb⟩; refine ⟨_, rfl, ?_⟩; replace BK207 := zK BK207 hb; replace HB := zB HB hb; (try clear hb)))
          go_roundg k2
          case measure => have := HJ3.out; have := HK2.out; omega
          case rel => exact ⟨(wrap64 (x39_2 + 1)), zt, H', ⟨by have := HJ3.out; have := HK2.out; omega⟩, ⟨zK_ BK207⟩, ⟨zB_ HB⟩⟩
         rw [if_neg c29] at H
         have c29b0 : (((rd_L1 l2 x39_2).length : Int) == a1) = false := beq_eq_false_iff_ne.mpr c29
         have c29b1 : (((rd_L1 l2 x39_2).length : Int) != a1) = true := bne_iff_ne.mpr c29
         obtain rfl := sI H
         have p209 : 0 ≤ (x39_2 : Int) := zd
         have q209 : x39_2 < (l2.length : Int) := zd
         obtain ⟨ad209, A209_0, c209_0, e209, hx209_0, hl209_0, hi209_0⟩ := at_L1 HR2.out x39_2 p209 q209
         cases e209
         try replace hx209_0 := (HB.out.cell (wL w _ hx209_0)).trans hx209_0
         have HR209_0 := A0_ hi209_0; have HC209_0 := A0_ hl209_0; clear hi209_0 hl209_0; replace p209 := eq_true p209; replace q209 := eq_true q209
         go_wp2_with (first | ((with_reducible refine gC (f := 60) rfl ?_); refine zJ (some 44) Try.func60 #[.slice A209_0 (rd_L1 l2 x39_2).length c209_0] ?_; (with_reducible refine (impl_PermValid.calls _ _ (rd_L1 l2 x39_2) true _ ?side1 ?side2 A27.out).mono ?_); (case side1 => exact zC HR209_0 HB); (case side2 => exact HC209_0.out); rintro e w31 ⟨rfl, hb⟩; refine ⟨_, rfl, ?_⟩; replace BK207 := zK BK207 hb; replace HB := zB HB hb; (try clear hb)))
         go_ret
         exact ⟨by first | rfl | (simp [*] <;> rfl), zB_ HB⟩
        replace c28 := Bool.eq_false_iff.mpr c28; subst c28
        rw [if_neg (show ¬ (false = true) by decide)] at H
        obtain rfl := sI H
        have p209 : 0 ≤ (x39_2 : Int) := zd
        have q209 : x39_2 < (l2.length : Int) := zd
        obtain ⟨ad209, A209_0, c209_0, e209, hx209_0, hl209_0, hi209_0⟩ := at_L1 HR2.out x39_2 p209 q209
        cases e209
        try replace hx209_0 := (HB.out.cell (wL w _ hx209_0)).trans hx209_0
        have HR209_0 := A0_ hi209_0; have HC209_0 := A0_ hl209_0; clear hi209_0 hl209_0; replace p209 := eq_true p209; replace q209 := eq_true q209
        go_wp2_with (first | ((with_reducible refine gC (f := 60) rfl ?_); refine zJ (some 44) Try.func60 #[.slice A209_0 (rd_L1 l2 x39_2).length c209_0] ?_; (with_reducible refine (impl_PermValid.calls _ _ (rd_L1 l2 x39_2) false _ ?side1 ?side2 A27.out).mono ?_); (case side1 => exact zC HR209_0 HB); (case side2 => exact HC209_0.out); rintro e w32 ⟨rfl, hb⟩; refine ⟨_, rfl, ?_⟩; replace BK207 := zK BK207 hb; replace HB := zB HB hb; (try clear hb)))
        go_ret
        exact ⟨by first | rfl | (simp [*] <;> rfl), zB_ HB⟩
       rw [if_neg c26] at H
       exact absurd H (by simp)
      rw [if_neg c25] at H
      exact absurd H (by simp)
     rw [if_neg c24] at H; have c24b0 := dF c24; clear c24; obtain rfl := sI H
     go_wp2
     go_ret
     exact ⟨by first | rfl | (simp [*] <;> rfl), zB_ HB⟩

/-! ### impl_back: function 89 -/
def impl_back.l0 : Nat → List Int → List Int → Int → Int → Option (List Int)
  | 0, _, _, _, _ => none
  | k + 1, x3, x9, x10, x11 => if x11 < x10 then (if 0 ≤ x11 then (if x11 < (x9.length : Int) then (if 0 ≤ (rd x9 x11) then (if (rd x9 x11) < (x3.length : Int) then (impl_back.l0 k (x3.set ((rd x9 x11) : Int).toNat x11) x9 x10 (wrap64 (x11 + 1))) else (none)) else (none)) else (none)) else (none)) else (some x3)
def impl_back.f (k : Nat) (l0 : List Int) : Option (List Int) := if 0 ≤ (l0.length : Int) then (if ((l0.length : Int) : Int).toNat ≤ 35184372088832 then (impl_back.l0 k (List.replicate ((l0.length : Int) : Int).toNat 0) l0 (l0.length : Int) 0) else (none)) else (none)
set_option maxHeartbeats 8000000 in
set_option maxRecDepth 100000 in
theorem impl_back.calls (k : Nat) (A0 : Option Addr) (c0 : Nat) (l0 : List Int) (r : List Int) (w : World) (hr0 : Kd.C (Kd.int .i64) w A0 l0.length l0) (hc0 : l0.length ≤ c0) (h : impl_back.f k l0 = some r) :
    Calls Try.prog 89 #[.slice A0 l0.length c0] w fun e w' => ∃ v0_ : Value, e = .returned (v0_) ∧ Kd.R (Kd.int .i64) 3 w' w.heap.size (fun _ => True) v0_ r ∧ Below w.heap.size w w' := by
 have HR0 := A0_ hr0; have HC0 := A0_ hc0; clear hr0 hc0
 have HB := A0_ (Below.refl w.heap.size w)
 have H : (if 0 ≤ (l0.length : Int) then (if ((l0.length : Int) : Int).toNat ≤ 35184372088832 then (impl_back.l0 k (List.replicate ((l0.length : Int) : Int).toNat 0) l0 (l0.length : Int) 0) else (none)) else (none)) = some r := h
 clear h
 by_cases c2 : 0 ≤ (l0.length : Int)
 ·rw [if_pos c2] at H
  have c2b0 := eq_true c2; have c2b1 := dT c2; clear c2
  by_cases c3 : ((l0.length : Int) : Int).toNat ≤ 35184372088832
  ·rw [if_pos c3] at H
   have c3b0 := eq_true c3; have c3b1 := dT c3; clear c3
   obtain ⟨y211, hy211⟩ : ∃ y_ : List Int, y_ = (List.replicate ((l0.length : Int) : Int).toNat 0) := ⟨_, rfl⟩
   replace H : (impl_back.l0 k y211 l0 (l0.length : Int) 0) = some r := zH hy211 H
   have Ny211 := A0_ hy211; clear hy211; have H' := A0_ H; clear H
   go_enter Try.func89, Try.ntmps89
   go_wp2_with (first | ((with_reducible refine gD (N := 8) rfl ?_); refine Kd.R_make (Kd.int .i64) _ 3 rfl (N := 8) rfl 22 _ _ rfl (l0.length : Int) rfl rfl Try.underlying22 (.int .i64 0) 8 info3 rfl (by decide) (by omega) 0 (ok := fun _ => True) (okp := fun _ => True) rfl (fun _ hk => hk) trivial (zd) (Nat.le_trans (Nat.mul_le_mul_right _ (zd : (l0.length : Int).toNat ≤ 35184372088832)) (by omega)) (Below.refl _ _) (Nat.le_refl _) ?_; intro v212 w4 ho5 hb hg_ hnew_; clear hg_ hnew_; (first | rw [← Ny211.out] at ho5 | (simp only [Int.reduceToNat] at ho5; rw [← Ny211.out] at ho5)); have HO213 := A0_ (rL ho5 (bZ (zB_ HB))); replace HB := zB HB hb; clear hb ho5))
   go_loopg [11] k (fun kq v11 w' => ∃ (x3_1 : List Int) (x11_1 : Int), v11 = .int .i64 x11_1 ∧ Aside0 (impl_back.l0 kq x3_1 l0 (l0.length : Int) x11_1 = some r) ∧ Aside0 (kq ≤ k) ∧ Aside0 (Kd.R (Kd.int .i64) 3 w' w.heap.size (fun _ => True) v212 x3_1) ∧ Aside0 (Below w.heap.size w w'))
   case atStart => exact ⟨(y211), (0), zt, H', ⟨Nat.le_refl _⟩, ⟨zR_ HO213⟩, ⟨zB_ HB⟩⟩
   case round =>
    clear H'; (try clear c2); (try clear c2b0); (try clear c2b1); (try clear p2); (try clear c3); (try clear c3b0); (try clear c3b1); obtain ⟨x3_1, x11_1, rfl, HA, HK1, HO_3, HB⟩ := hrel
    cases gk with
    | zero => exact absurd HA.out (by simp [impl_back.l0])
    | succ k1 =>
     have H := HA.out; clear HA; simp only [impl_back.l0] at H
     by_cases c6 : x11_1 < (l0.length : Int)
     ·rw [if_pos c6] at H
      have c6b0 := dT c6; clear c6
      by_cases c7 : 0 ≤ x11_1
      ·rw [if_pos c7] at H
       have c7b0 := dT c7; clear c7
       by_cases c8 : x11_1 < (l0.length : Int)
       ·rw [if_pos c8] at H
        have c8b0 := dT c8; clear c8
        by_cases c9 : 0 ≤ (rd l0 x11_1)
        ·rw [if_pos c9] at H
         have c9b0 := dT c9; clear c9
         by_cases c10 : (rd l0 x11_1) < (x3_1.length : Int)
         ·rw [if_pos c10] at H
          have c10b0 := dT c10; clear c10
          obtain ⟨y215, hy215⟩ : ∃ y_ : List Int, y_ = (x3_1.set ((rd l0 x11_1) : Int).toNat x11_1) := ⟨_, rfl⟩
          replace H : (impl_back.l0 k1 y215 l0 (l0.length : Int) (wrap64 (x11_1 + 1))) = some r := zH hy215 H
          have Ny215 := A0_ hy215; clear hy215; have H' := A0_ H; clear H
          have p214 : 0 ≤ (x11_1 : Int) := zd
          have q214 : x11_1 < (l0.length : Int) := zd
          obtain ⟨ad214, e214, hx214_0⟩ := tI HR0.out x11_1 p214 q214
          cases e214
          try replace hx214_0 := (HB.out.cell (wL w _ hx214_0)).trans hx214_0
          replace p214 := eq_true p214; replace q214 := eq_true q214
          have p11 : 0 ≤ ((rd l0 x11_1) : Int) := zd
          have q11 : ((rd l0 x11_1) : Int) < ((x3_1.length : Int) : Int) := zd
          obtain ⟨go11, co11, eo11, gb11, gl11, cl11, HG11⟩ := Kd.R_form HO_3.out (by omega)
          (first | cases eo11 | (injection eo11 with ea_ en_ ec_; (first | subst ea_ | (injection ea_ with ea_; subst ea_)); subst ec_; clear en_))
          have GB11 := A0_ gb11; have GG11 := A0_ HG11; clear gb11 gl11 HG11
          obtain ⟨hx11_0, hf11_0⟩ := Kd.R_celln 0 HO_3.out ((rd l0 x11_1) : Int) p11 q11
          replace p11 := eq_true p11; replace q11 := eq_true q11
          have HP12 := Kd.R_putg HO_3.out ((rd l0 x11_1) : Int) x11_1
          go_wp2_with (first | ((with_reducible refine gS (t := 3) (p := 19) rfl ?_); refine store_event (t := 3) (p := 19) (v := ?vo_w13) (w1 := (wr.setCell ⟨go11, ((rd l0 x11_1) : Int).toNat, none⟩ (.int .i64 x11_1))) ?hg ?ho ?hn ?hr ?_; (case ho => rfl); (case hg => rfl); (case hn => rfl); (case hr => first | (go_simp; done) | (go_simp; rfl)); intro w13 hw; have hg : wr.grownBy w13 (some go11) := (by rw [hw]; exact HP12.2); have hp_ : Kd.R (Kd.int .i64) 3 w13 w.heap.size (fun _ => True) (.slice (some ⟨go11, 0, none⟩) x3_1.length co11) y215 := (by rw [hw, Ny215.out]; exact HP12.1); clear HP12; replace HO_3 := A0_ (hp_); replace HB := A0_ ((by rw [hw]; exact bS (HB.out) GB11.out : Below w.heap.size w w13)); clear hg hw hp_))
          go_roundg k1
          case measure => have := HK1.out; omega
          case rel => exact ⟨(y215), (wrap64 (x11_1 + 1)), zt, H', ⟨by have := HK1.out; omega⟩, ⟨zR_ HO_3⟩, ⟨zB_ HB⟩⟩
         rw [if_neg c10] at H
         exact absurd H (by simp)
        rw [if_neg c9] at H
        exact absurd H (by simp)
       rw [if_neg c8] at H
       exact absurd H (by simp)
      rw [if_neg c7] at H
      exact absurd H (by simp)
     rw [if_neg c6] at H; have c6b0 := dF c6; clear c6; obtain rfl := sI H
     go_wp2
     go_ret
     exact ⟨_, by first | rfl | (simp [*] <;> rfl), zR_ HO_3, zB_ HB⟩
  rw [if_neg c3] at H
  exact absurd H (by simp)
 rw [if_neg c2] at H
 exact absurd H (by simp)

/-! ### impl_edgesOf: function 105 -/
def impl_edgesOf.l0 : Nat → List Int → List Int → Int → Int → Option (List Int)
  | 0, _, _, _, _ => none
  | k + 1, x3, x8, x9, x10 => if x10 < x9 then (if 0 ≤ x10 then (if x10 < (x8.length : Int) then (if x10 < (rd x8 x10) then (if x3.length < 17592186044416 then (impl_edgesOf.l0 k (x3 ++ [x10]) x8 x9 (wrap64 (x10 + 1))) else (none)) else (impl_edgesOf.l0 k x3 x8 x9 (wrap64 (x10 + 1)))) else (none)) else (none)) else (some x3)
def impl_edgesOf.f (k : Nat) (l0_0 : List Int) (l0_1 : List Int) : Option (List Int) := impl_edgesOf.l0 k (([] : List Int)) l0_1 (l0_1.length : Int) 0
set_option maxHeartbeats 8000000 in
set_option maxRecDepth 100000 in
theorem impl_edgesOf.calls (k : Nat) (A0_0 : Option Addr) (c0_0 : Nat) (l0_0 : List Int) (A0_1 : Option Addr) (c0_1 : Nat) (l0_1 : List Int) (r : List Int) (w : World) (hr0_0 : Kd.C (Kd.int .i64) w A0_0 l0_0.length l0_0) (hc0_0 : l0_0.length ≤ c0_0) (hr0_1 : Kd.C (Kd.int .i64) w A0_1 l0_1.length l0_1) (hc0_1 : l0_1.length ≤ c0_1) (h : impl_edgesOf.f k l0_0 l0_1 = some r) :
    Calls Try.prog 105 #[.agg #[.slice A0_0 l0_0.length c0_0, .slice A0_1 l0_1.length c0_1]] w fun e w' => ∃ v0_ : Value, e = .returned (v0_) ∧ Kd.R (Kd.int .i64) 3 w' w.heap.size (fun _ => True) v0_ r ∧ Below w.heap.size w w' := by
 have hu29 := Try.underlying29; have HR0_0 := A0_ hr0_0; have HC0_0 := A0_ hc0_0; clear hr0_0 hc0_0; have HR0_1 := A0_ hr0_1; have HC0_1 := A0_ hc0_1; clear hr0_1 hc0_1
 have HB := A0_ (Below.refl w.heap.size w)
 have H : (impl_edgesOf.l0 k (([] : List Int)) l0_1 (l0_1.length : Int) 0) = some r := h
 clear h
 obtain ⟨y217, hy217⟩ : ∃ y_ : List Int, y_ = (([] : List Int)) := ⟨_, rfl⟩
 replace H : (impl_edgesOf.l0 k y217 l0_1 (l0_1.length : Int) 0) = some r := zH hy217 H
 have Ny217 := A0_ hy217; clear hy217; have H' := A0_ H; clear H
 go_enter Try.func105, Try.ntmps105
 go_wp2_with (first | ((with_reducible refine gD (N := 1) rfl ?_); refine zX (N := 1) (cs := #[.slice A0_0 l0_0.length c0_0, .slice A0_1 l0_1.length c0_1]) (t := 29) ?_; intro gb216 hg w2 hbox hb; have BK216 := A0_ (hbox); have GW216 := zG hg HB; have GE216 := zG hg HB; replace HB := zB HB hb; clear hb hbox hg) | ((with_reducible refine gD (N := 6) rfl ?_); refine Kd.R_lit (Kd.int .i64) _ 3 ?hg (N := 6) ?hd (xs := ([] : List Int)) (inner := []) (ok := fun _ => True) (okp := fun _ => True) ?hr ?hp (fun _ hk => hk) trivial (Below.refl _ _) (Nat.le_refl _) (by simp) ?_; (case hd => rfl); (case hg => rfl); (case hr => first | (go_simp; done) | (go_simp; rfl)); (case hp => exact (Reps.none _ _)); intro v218 w3 ho4 hb hg_ hnew_; clear hg_ hnew_; (first | rw [← Ny217.out] at ho4 | (simp only [Int.reduceToNat] at ho4; rw [← Ny217.out] at ho4)); have HO219 := A0_ (rL ho4 (bZ (zB_ HB))); replace BK216 := zK BK216 hb; replace HB := zB HB hb; clear hb ho4; have hcz5_0 := zc0 BK216; have hcz5_1 := zc1 BK216; have hfz5_0 := kF BK216.out 0; have hfz5_1 := kF BK216.out 1))
 go_loopg [3, 10] k (fun kq v3 v10 w' => ∃ (x3_1 : List Int) (x10_1 : Int), v10 = .int .i64 x10_1 ∧ Aside0 (impl_edgesOf.l0 kq x3_1 l0_1 (l0_1.length : Int) x10_1 = some r) ∧ Aside0 (kq ≤ k) ∧ Aside0 (Kd.R (Kd.int .i64) 3 w' w.heap.size (fun _ => True) v3 x3_1) ∧ Aside0 (w'.heap[gb216]? = some (.cells #[(.slice A0_0 l0_0.length c0_0), (.slice A0_1 l0_1.length c0_1)] 29 (0, 0))) ∧ Aside0 (Below w.heap.size w w'))
 case atStart => exact ⟨(y217), (0), zt, H', ⟨Nat.le_refl _⟩, ⟨zR_ HO219⟩, ⟨zK_ BK216⟩, ⟨zB_ HB⟩⟩
 case round =>
  clear H'; (try clear c1); (try clear p2); (try clear hcz5_0); (try clear hcz5_1); (try clear hfz5_0); (try clear hfz5_1); obtain ⟨x3_1, x10_1, rfl, HA, HK1, HO_3, BK216, HB⟩ := hrel
  cases gk with
  | zero => exact absurd HA.out (by simp [impl_edgesOf.l0])
  | succ k1 =>
   have H := HA.out; clear HA; simp only [impl_edgesOf.l0] at H
   by_cases c6 : x10_1 < (l0_1.length : Int)
   ·rw [if_pos c6] at H
    have c6b0 := dT c6; clear c6
    by_cases c7 : 0 ≤ x10_1
    ·rw [if_pos c7] at H
     have c7b0 := dT c7; clear c7
     by_cases c8 : x10_1 < (l0_1.length : Int)
     ·rw [if_pos c8] at H
      have c8b0 := dT c8; clear c8
      by_cases c9 : x10_1 < (rd l0_1 x10_1)
      ·rw [if_pos c9] at H
       have c9b0 := dT c9; clear c9
       by_cases c10 : x3_1.length < 17592186044416
       ·rw [if_pos c10] at H
        have LMc10 := A0_ c10; clear c10
        obtain ⟨y221, hy221⟩ : ∃ y_ : List Int, y_ = (x3_1 ++ [x10_1]) := ⟨_, rfl⟩
        replace H : (impl_edgesOf.l0 k1 y221 l0_1 (l0_1.length : Int) (wrap64 (x10_1 + 1))) = some r := zH hy221 H
        have Ny221 := A0_ hy221; clear hy221; have H' := A0_ H; clear H
        have p220 : 0 ≤ (x10_1 : Int) := zd
        have q220 : x10_1 < (l0_1.length : Int) := zd
        obtain ⟨ad220, e220, hx220_0⟩ := tI HR0_1.out x10_1 p220 q220
        cases e220
        try replace hx220_0 := (HB.out.cell (wL w _ hx220_0)).trans hx220_0
        replace p220 := eq_true p220; replace q220 := eq_true q220
        go_wp2_with (first | ((with_reducible refine gB (b := .append) (xs := #[.tmp 18, .tmp 20]) rfl ?_); at_builtin; refine Kd.R_append (Kd.int .i64) (w0 := w) w.heap.size rfl (.tmp 18) (.tmp 20) 22 3 (.int .i64 0) 8 rfl Try.underlying22 info3 rfl (by decide) (by omega) u3 x3_1 x10_1 [.int .i64 x10_1] (fun _ => True) (fun _ => False) rfl rfl ?aP (fun _ hk => hk.elim) ?aF ?aO ?aB ?aS ?aL ?_; (case aP => exact rfl); (case aB => exact (zB_ HB)); (case aF => exact (fun _ _ => trivial)); (case aO => exact (zR_ HO_3)); (case aS => exact (bZ (zB_ HB))); (case aL => have := LMc10.out; omega); intro v222 w11 ho hb hg hat; rw [← Ny221.out] at ho; replace BK216 := A0_ (blk_grown (g := gb216) (o := .cells #[.slice A0_0 l0_0.length c0_0, .slice (some ad220) l0_1.length c0_1] 29 (0, 0)) (zK_ BK216) hg (Kd.R_ne HO_3.out BK216.out (by decide))); replace HB := A0_ (hb); have HO223 := A0_ (ho); clear HO_3 ho hb hg hat))
        go_roundg k1
        case measure => have := HK1.out; omega
        case rel => exact ⟨(y221), (wrap64 (x10_1 + 1)), zt, H', ⟨by have := HK1.out; omega⟩, ⟨zR_ HO223⟩, ⟨zK_ BK216⟩, ⟨zB_ HB⟩⟩
       rw [if_neg c10] at H
       exact absurd H (by simp)
      rw [if_neg c9] at H; have c9b0 := dF c9; clear c9; have H' := A0_ H; clear H
      have p220 : 0 ≤ (x10_1 : Int) := zd
      have q220 : x10_1 < (l0_1.length : Int) := zd
      obtain ⟨ad220, e220, hx220_0⟩ := tI HR0_1.out x10_1 p220 q220
      cases e220
      try replace hx220_0 := (HB.out.cell (wL w _ hx220_0)).trans hx220_0
      replace p220 := eq_true p220; replace q220 := eq_true q220
      go_wp2
      go_roundg k1
      case measure => have := HK1.out; omega
      case rel => exact ⟨(x3_1), (wrap64 (x10_1 + 1)), zt, H', ⟨by have := HK1.out; omega⟩, ⟨zR_ HO_3⟩, ⟨zK_ BK216⟩, ⟨zB_ HB⟩⟩
     rw [if_neg c8] at H
     exact absurd H (by simp)
    rw [if_neg c7] at H
    exact absurd H (by simp)
   rw [if_neg c6] at H; have c6b0 := dF c6; clear c6; obtain rfl := sI H
   go_wp2
   go_ret
   exact ⟨_, by first | rfl | (simp [*] <;> rfl), zR_ HO_3, zB_ HB⟩

end Go.Proofs.Ytmcgkckdnelcdaa.PFnTrivial
