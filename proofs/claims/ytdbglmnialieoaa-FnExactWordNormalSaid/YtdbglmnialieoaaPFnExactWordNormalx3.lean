-- Made by a program of this session (wip/tools) out of the loaded program; not trusted: Lean checks it.
import Derived.Test.YtdbglmnialieoaaPFnExactWordNormalx0
import Derived.Test.YtdbglmnialieoaaPFnExactWordNormalx1
import Derived.Test.YtdbglmnialieoaaPFnExactWordNormalx2
namespace Go.Proofs.Ytdbglmnialieoaa.PFnExactWordNormal
open Go.RowKit Go.Proofs.YtdbglmnialieoaaW.PrintWords Go.Proofs.YtdbglmnialieoaaW.PrintLast Go.Proofs.YtdbglmnialieoaaW.PrintMore
attribute [local go_sem] max2_int min2_int max_two min_two max_three min_three max_four min_four   -- for this text's walks alone
set_option linter.unusedVariables false
set_option linter.unusedSimpArgs false

/-! ### spec_WordNumber: function 33 -/
def spec_WordNumber.f (k : Nat) (a0 : ByteArray) : Option (Int) := (spec_WordValid.f k a0).bind fun t151 => (if t151 = true then ((spec_l8Corners.f k a0).bind fun t152 => (some (wrap64 ((wrap64 (t152 - (wrap64 ((a0.size : Int) / 2)))) + 1)))) else (some (-100)))
theorem spec_WordNumber.mono : ∀ a0 k, LeO (spec_WordNumber.f k a0) (spec_WordNumber.f (k + 1) a0) := by
  intro a0 k
  unfold spec_WordNumber.f
  repeat' first
      | (with_reducible exact spec_WordValid.mono _ _)
      | (with_reducible exact spec_l8Corners.mono _ _)
      | (with_reducible exact LeO.refl _)
      | (with_reducible exact LeO.none _)
      | (with_reducible refine LeO.ite ?_ ?_)
      | (with_reducible refine LeO.bind ?_ (fun _ => ?_))
      | exact spec_WordValid.mono _ _
      | exact spec_l8Corners.mono _ _
      | exact LeO.none _
      | refine LeO.ite ?_ ?_
      | refine LeO.bind ?_ (fun _ => ?_)
set_option maxHeartbeats 8000000 in
set_option maxRecDepth 100000 in
theorem spec_WordNumber.calls (k : Nat) (a0 : ByteArray) (r : Int) (w : World) (h : spec_WordNumber.f k a0 = some r) :
    Calls Try.prog 33 #[.string a0] w fun e w' => e = .returned (.int .i64 r) ∧ Below w.heap.size w w' := by
  have HB := Aside0.mk (Below.refl w.heap.size w)
  have H : ((spec_WordValid.f k a0).bind fun t151 => (if t151 = true then ((spec_l8Corners.f k a0).bind fun t152 => (some (wrap64 ((wrap64 (t152 - (wrap64 ((a0.size : Int) / 2)))) + 1)))) else (some (-100)))) = some r := h
  clear h
  replace H := Option.bind_eq_some_iff.mp H
  obtain ⟨t151, A20, H⟩ := H
  replace H : (if t151 = true then ((spec_l8Corners.f k a0).bind fun t152 => (some (wrap64 ((wrap64 (t152 - (wrap64 ((a0.size : Int) / 2)))) + 1)))) else (some (-100))) = some r := H
  have A2 := Aside0.mk A20
  clear A20
  by_cases c3 : t151 = true
  · subst c3
    have H1 : ((spec_l8Corners.f k a0).bind fun t152 => (some (wrap64 ((wrap64 (t152 - (wrap64 ((a0.size : Int) / 2)))) + 1)))) = some r := by rw [if_pos rfl] at H; exact H
    clear H
    have H := H1
    clear H1
    replace H := Option.bind_eq_some_iff.mp H
    obtain ⟨t152, A40, H⟩ := H
    replace H : (some (wrap64 ((wrap64 (t152 - (wrap64 ((a0.size : Int) / 2)))) + 1))) = some r := H
    have A4 := Aside0.mk A40
    clear A40
    obtain rfl := Option.some.inj H
    go_enter Try.func33, Try.ntmps33
    go_wp2_with (first | ((with_reducible refine gate_callee (f := 28) rfl ?_); refine goesL_ (some 4) rfl rfl Try.func28 (by kernel_rfl) rfl #[.string a0] rfl (by (try simp only [List.map_toArray, List.map_cons, List.map_nil]); first | done | rfl | (simp only [List.length_drop, List.length_take]; rfl)) ?_; (with_reducible refine (spec_WordValid.calls k a0 true _ A2.out).mono ?_); rintro e w' ⟨rfl, ⟨nd, rfl⟩⟩; refine ⟨_, rfl, ?_⟩) | ((with_reducible refine gate_callee (f := 53) rfl ?_); refine goesL_ (some 7) rfl rfl Try.func53 (by kernel_rfl) rfl #[.string a0] rfl (by (try simp only [List.map_toArray, List.map_cons, List.map_nil]); first | done | rfl | (simp only [List.length_drop, List.length_take]; rfl)) ?_; (with_reducible refine (spec_l8Corners.calls k a0 t152 _ A4.out).mono ?_); rintro e w5 ⟨rfl, hb⟩; refine ⟨_, rfl, ?_⟩; have n0_ := Aside0.mk (below_step (by repeat (first | (with_reducible first | exact HB.out | apply below_alloc | apply pw_below_drewN | apply below_drew1) | exact HB.out)) hb); clear HB; have HB := n0_; clear n0_; (try clear hb); (try clear hb2); (try clear hk); (try clear hi)))
    go_ret
    exact ⟨by first | rfl | (simp [errW_none, errW_some] <;> rfl) | (simp [*, errW_none, errW_some] <;> rfl), by repeat (first | (with_reducible first | exact HB.out | apply below_alloc | apply pw_below_drewN | apply below_drew1) | exact HB.out)⟩
  · replace c3 := Bool.eq_false_iff.mpr c3
    subst c3
    have H1 : (some (-100)) = some r := by rw [if_neg (show ¬ (false = true) by decide)] at H; exact H
    clear H
    have H := H1
    clear H1
    obtain rfl := Option.some.inj H
    go_enter Try.func33, Try.ntmps33
    go_wp2_with (first | ((with_reducible refine gate_callee (f := 28) rfl ?_); refine goesL_ (some 4) rfl rfl Try.func28 (by kernel_rfl) rfl #[.string a0] rfl (by (try simp only [List.map_toArray, List.map_cons, List.map_nil]); first | done | rfl | (simp only [List.length_drop, List.length_take]; rfl)) ?_; (with_reducible refine (spec_WordValid.calls k a0 false _ A2.out).mono ?_); rintro e w' ⟨rfl, ⟨nd, rfl⟩⟩; refine ⟨_, rfl, ?_⟩))
    go_ret
    exact ⟨by first | rfl | (simp [errW_none, errW_some] <;> rfl) | (simp [*, errW_none, errW_some] <;> rfl), by repeat (first | (with_reducible first | exact HB.out | apply below_alloc | apply pw_below_drewN | apply below_drew1) | exact HB.out)⟩

/-! ### spec_l8Name: function 45 -/
def spec_l8Name.f (a0 : Int) (a1 : Bool) : Option (ByteArray) := if a1 = true then (some (strOfNums (([(wrap64 (97 + a0)) % 256] : List Int)))) else (some (strOfNums (([(wrap64 (65 + a0)) % 256] : List Int))))
set_option maxHeartbeats 8000000 in
set_option maxRecDepth 100000 in
theorem spec_l8Name.calls (a0 : Int) (a1 : Bool) (r : ByteArray) (w : World) (h : spec_l8Name.f a0 a1 = some r) :
    Calls Try.prog 45 #[.int .i64 a0, .bool a1] w fun e w' => e = .returned (.string r) ∧ Below w.heap.size w w' := by
  have HB := Aside0.mk (Below.refl w.heap.size w)
  have H : (if a1 = true then (some (strOfNums (([(wrap64 (97 + a0)) % 256] : List Int)))) else (some (strOfNums (([(wrap64 (65 + a0)) % 256] : List Int))))) = some r := h
  clear h
  by_cases c3 : a1 = true
  · subst c3
    have H1 : (some (strOfNums (([(wrap64 (97 + a0)) % 256] : List Int)))) = some r := by rw [if_pos rfl] at H; exact H
    clear H
    have H := H1
    clear H1
    obtain ⟨y153, hy153⟩ : ∃ y_ : List Int, y_ = (([(wrap64 (97 + a0)) % 256] : List Int)) := ⟨_, rfl⟩
    replace H : (some (strOfNums y153)) = some r := by first | (rw [hy153]; with_reducible exact H) | (have H2_ := (Option.bind_some _ _).symm.trans H; rw [hy153]; with_reducible exact H2_) | (have H2_ := (Option.bind_some _ _).symm.trans H; with_reducible exact H2_) | with_reducible exact H | (rw [hy153]; exact H) | exact H
    have Ny153 := Aside0.mk hy153
    clear hy153
    obtain rfl := Option.some.inj H
    go_enter Try.func45, Try.ntmps45
    go_wp2_with (first | ((with_reducible refine gate_dst (N := 9) rfl ?_); refine Kd.R_lit (Kd.int .u8) _ 5 ?hg (N := 9) ?hd (xs := ([(wrap64 (97 + a0)) % 256] : List Int)) (inner := [.int .u8 ((wrap64 (97 + a0)) % 256)]) (ok := fun _ => True) (okp := fun _ => True) ?hr ?hp (fun _ hk => hk) trivial (Below.refl _ _) (Nat.le_refl _) (by simp) ?_; (case hd => rfl); (case hg => rfl); (case hr => first | (go_simp; done) | (go_simp; rfl)); (case hp => exact (Reps.one (show Kd.M (Kd.int .u8) _ _ _ ((wrap64 (97 + a0)) % 256) [.int .u8 ((wrap64 (97 + a0)) % 256)] from rfl) (Reps.none _ _))); intro v154 w4 ho5 hb hg_ hnew_; clear hg_ hnew_; (first | rw [← Ny153.out] at ho5 | (simp only [Int.reduceToNat] at ho5; rw [← Ny153.out] at ho5)); have n0_ := Aside0.mk (Kd.R_lower ho5 (below_size (by repeat (first | (with_reducible first | exact HB.out | apply below_alloc | apply pw_below_drewN | apply below_drew1) | exact HB.out)))); have n1_ := Aside0.mk (below_step (by repeat (first | (with_reducible first | exact HB.out | apply below_alloc | apply pw_below_drewN | apply below_drew1) | exact HB.out)) hb); clear HB; have HO155 := n0_; have HB := n1_; clear n0_ n1_; clear hb ho5; have hcv6 := own_string (P := Try.prog) Try.underlying34 Try.underlying5 Try.underlying9 (Kd.own_of_R HO155.out)))
    go_ret
    exact ⟨by first | rfl | (simp [errW_none, errW_some] <;> rfl) | (simp [*, errW_none, errW_some] <;> rfl), by repeat (first | (with_reducible first | exact HB.out | apply below_alloc | apply pw_below_drewN | apply below_drew1) | exact HB.out)⟩
  · replace c3 := Bool.eq_false_iff.mpr c3
    subst c3
    have H1 : (some (strOfNums (([(wrap64 (65 + a0)) % 256] : List Int)))) = some r := by rw [if_neg (show ¬ (false = true) by decide)] at H; exact H
    clear H
    have H := H1
    clear H1
    obtain ⟨y156, hy156⟩ : ∃ y_ : List Int, y_ = (([(wrap64 (65 + a0)) % 256] : List Int)) := ⟨_, rfl⟩
    replace H : (some (strOfNums y156)) = some r := by first | (rw [hy156]; with_reducible exact H) | (have H2_ := (Option.bind_some _ _).symm.trans H; rw [hy156]; with_reducible exact H2_) | (have H2_ := (Option.bind_some _ _).symm.trans H; with_reducible exact H2_) | with_reducible exact H | (rw [hy156]; exact H) | exact H
    have Ny156 := Aside0.mk hy156
    clear hy156
    obtain rfl := Option.some.inj H
    go_enter Try.func45, Try.ntmps45
    go_wp2_with (first | ((with_reducible refine gate_dst (N := 14) rfl ?_); refine Kd.R_lit (Kd.int .u8) _ 5 ?hg (N := 14) ?hd (xs := ([(wrap64 (65 + a0)) % 256] : List Int)) (inner := [.int .u8 ((wrap64 (65 + a0)) % 256)]) (ok := fun _ => True) (okp := fun _ => True) ?hr ?hp (fun _ hk => hk) trivial (Below.refl _ _) (Nat.le_refl _) (by simp) ?_; (case hd => rfl); (case hg => rfl); (case hr => first | (go_simp; done) | (go_simp; rfl)); (case hp => exact (Reps.one (show Kd.M (Kd.int .u8) _ _ _ ((wrap64 (65 + a0)) % 256) [.int .u8 ((wrap64 (65 + a0)) % 256)] from rfl) (Reps.none _ _))); intro v157 w7 ho8 hb hg_ hnew_; clear hg_ hnew_; (first | rw [← Ny156.out] at ho8 | (simp only [Int.reduceToNat] at ho8; rw [← Ny156.out] at ho8)); have n0_ := Aside0.mk (Kd.R_lower ho8 (below_size (by repeat (first | (with_reducible first | exact HB.out | apply below_alloc | apply pw_below_drewN | apply below_drew1) | exact HB.out)))); have n1_ := Aside0.mk (below_step (by repeat (first | (with_reducible first | exact HB.out | apply below_alloc | apply pw_below_drewN | apply below_drew1) | exact HB.out)) hb); clear HB; have HO158 := n0_; have HB := n1_; clear n0_ n1_; clear hb ho8; have hcv9 := own_string (P := Try.prog) Try.underlying34 Try.underlying5 Try.underlying9 (Kd.own_of_R HO158.out)))
    go_ret
    exact ⟨by first | rfl | (simp [errW_none, errW_some] <;> rfl) | (simp [*, errW_none, errW_some] <;> rfl), by repeat (first | (with_reducible first | exact HB.out | apply below_alloc | apply pw_below_drewN | apply below_drew1) | exact HB.out)⟩

/-! ### spec_WordNormal: function 35 -/
mutual
def spec_WordNormal.j0 : Nat → ByteArray → ByteArray → Int → Bool → Option (ByteArray × Bool)
  | 0, _, _, _, _ => none
  | k + 1, x0, x4, x5, x16 => if x16 = true then (some ((⟨#[]⟩ : ByteArray), false)) else (if x5 = 0 then (some ((⟨#[97, 65]⟩ : ByteArray), true)) else (spec_WordNormal.l0 k x0 x4 x5 0))
def spec_WordNormal.l0 : Nat → ByteArray → ByteArray → Int → Int → Option (ByteArray × Bool)
  | 0, _, _, _, _ => none
  | k + 1, x0, x4, x5, x6 => if x6 < x5 then ((spec_WordSided.f k x0).bind fun t161 => (if t161 = true then (if (Int.tmod x6 2) = 1 then ((spec_l8Name.f (wrap64 (x6 - 1)) true).bind fun t162 => (if x4.size + t162.size ≤ 9223372036854775807 then ((spec_l8Name.f x6 true).bind fun t163 => (if (x4 ++ t162).size + t163.size ≤ 9223372036854775807 then ((spec_l8Name.f (wrap64 (x6 - 1)) false).bind fun t164 => (if ((x4 ++ t162) ++ t163).size + t164.size ≤ 9223372036854775807 then ((spec_l8Name.f x6 false).bind fun t165 => (if (((x4 ++ t162) ++ t163) ++ t164).size + t165.size ≤ 9223372036854775807 then (spec_WordNormal.l0 k x0 ((((x4 ++ t162) ++ t163) ++ t164) ++ t165) x5 (wrap64 (x6 + 1))) else (none))) else (none))) else (none))) else (none))) else (spec_WordNormal.l0 k x0 x4 x5 (wrap64 (x6 + 1)))) else ((spec_l8Name.f x6 true).bind fun t166 => (if x4.size + t166.size ≤ 9223372036854775807 then ((spec_l8Name.f x6 true).bind fun t167 => (if (x4 ++ t166).size + t167.size ≤ 9223372036854775807 then (spec_WordNormal.l0 k x0 ((x4 ++ t166) ++ t167) x5 (wrap64 (x6 + 1))) else (none))) else (none))))) else (some (x4, true))
end
def spec_WordNormal.f (k : Nat) (a0 : ByteArray) : Option (ByteArray × Bool) := (spec_WordNumber.f k a0).bind fun t159 => ((spec_WordValid.f k a0).bind fun t160 => (if t160 = true then (spec_WordNormal.j0 k a0 (⟨#[]⟩ : ByteArray) (wrap64 (2 - t159)) (decide ((wrap64 (2 - t159)) > 5))) else (spec_WordNormal.j0 k a0 (⟨#[]⟩ : ByteArray) (wrap64 (2 - t159)) true)))
theorem spec_WordNormal.mono_l : ∀ k, (∀ y0 y1 y2 y3, LeO (spec_WordNormal.j0 k y0 y1 y2 y3) (spec_WordNormal.j0 (k + 1) y0 y1 y2 y3)) ∧ (∀ y0 y1 y2 y3, LeO (spec_WordNormal.l0 k y0 y1 y2 y3) (spec_WordNormal.l0 (k + 1) y0 y1 y2 y3))
  | 0 => ⟨fun _ _ _ _ r h => by simp [spec_WordNormal.j0] at h, fun _ _ _ _ r h => by simp [spec_WordNormal.l0] at h⟩
  | k + 1 => by
    obtain ⟨ih0, ih1⟩ := spec_WordNormal.mono_l k
    refine ⟨?_, ?_⟩
    · intro y0 y1 y2 y3
      unfold spec_WordNormal.j0
      repeat' first
      | (with_reducible exact ih0 _ _ _ _)
      | (with_reducible exact ih1 _ _ _ _)
      | (with_reducible exact spec_WordNumber.mono _ _)
      | (with_reducible exact spec_WordSided.mono _ _)
      | (with_reducible exact spec_WordValid.mono _ _)
      | (with_reducible exact LeO.refl _)
      | (with_reducible exact LeO.none _)
      | (with_reducible refine LeO.ite ?_ ?_)
      | (with_reducible refine LeO.bind ?_ (fun _ => ?_))
      | exact ih0 _ _ _ _
      | exact ih1 _ _ _ _
      | exact spec_WordNumber.mono _ _
      | exact spec_WordSided.mono _ _
      | exact spec_WordValid.mono _ _
      | exact LeO.none _
      | refine LeO.ite ?_ ?_
      | refine LeO.bind ?_ (fun _ => ?_)
    · intro y0 y1 y2 y3
      unfold spec_WordNormal.l0
      repeat' first
      | (with_reducible exact ih0 _ _ _ _)
      | (with_reducible exact ih1 _ _ _ _)
      | (with_reducible exact spec_WordNumber.mono _ _)
      | (with_reducible exact spec_WordSided.mono _ _)
      | (with_reducible exact spec_WordValid.mono _ _)
      | (with_reducible exact LeO.refl _)
      | (with_reducible exact LeO.none _)
      | (with_reducible refine LeO.ite ?_ ?_)
      | (with_reducible refine LeO.bind ?_ (fun _ => ?_))
      | exact ih0 _ _ _ _
      | exact ih1 _ _ _ _
      | exact spec_WordNumber.mono _ _
      | exact spec_WordSided.mono _ _
      | exact spec_WordValid.mono _ _
      | exact LeO.none _
      | refine LeO.ite ?_ ?_
      | refine LeO.bind ?_ (fun _ => ?_)
theorem spec_WordNormal.mono : ∀ a0 k, LeO (spec_WordNormal.f k a0) (spec_WordNormal.f (k + 1) a0) := by
  intro a0 k
  obtain ⟨ih0, ih1⟩ := spec_WordNormal.mono_l k
  unfold spec_WordNormal.f
  repeat' first
      | (with_reducible exact ih0 _ _ _ _)
      | (with_reducible exact ih1 _ _ _ _)
      | (with_reducible exact spec_WordNumber.mono _ _)
      | (with_reducible exact spec_WordSided.mono _ _)
      | (with_reducible exact spec_WordValid.mono _ _)
      | (with_reducible exact LeO.refl _)
      | (with_reducible exact LeO.none _)
      | (with_reducible refine LeO.ite ?_ ?_)
      | (with_reducible refine LeO.bind ?_ (fun _ => ?_))
      | exact ih0 _ _ _ _
      | exact ih1 _ _ _ _
      | exact spec_WordNumber.mono _ _
      | exact spec_WordSided.mono _ _
      | exact spec_WordValid.mono _ _
      | exact LeO.none _
      | refine LeO.ite ?_ ?_
      | refine LeO.bind ?_ (fun _ => ?_)
set_option maxHeartbeats 8000000 in
set_option maxRecDepth 100000 in
theorem spec_WordNormal.calls (k : Nat) (a0 : ByteArray) (r1 : ByteArray) (r2 : Bool) (w : World) (h : spec_WordNormal.f k a0 = some (r1, r2)) :
    Calls Try.prog 35 #[.string a0] w fun e w' => e = .returned (.tuple #[.string r1, .bool r2]) ∧ Below w.heap.size w w' := by
  have HB := Aside0.mk (Below.refl w.heap.size w)
  have H : ((spec_WordNumber.f k a0).bind fun t159 => ((spec_WordValid.f k a0).bind fun t160 => (if t160 = true then (spec_WordNormal.j0 k a0 (⟨#[]⟩ : ByteArray) (wrap64 (2 - t159)) (decide ((wrap64 (2 - t159)) > 5))) else (spec_WordNormal.j0 k a0 (⟨#[]⟩ : ByteArray) (wrap64 (2 - t159)) true)))) = some (r1, r2) := h
  clear h
  replace H := Option.bind_eq_some_iff.mp H
  obtain ⟨t159, A20, H⟩ := H
  replace H : ((spec_WordValid.f k a0).bind fun t160 => (if t160 = true then (spec_WordNormal.j0 k a0 (⟨#[]⟩ : ByteArray) (wrap64 (2 - t159)) (decide ((wrap64 (2 - t159)) > 5))) else (spec_WordNormal.j0 k a0 (⟨#[]⟩ : ByteArray) (wrap64 (2 - t159)) true))) = some (r1, r2) := H
  have A2 := Aside0.mk A20
  clear A20
  have HC3 := Aside0.mk H
  clear H
  go_enter Try.func35, Try.ntmps35
  go_upto_region 3 with (first | ((with_reducible refine gate_callee (f := 33) rfl ?_); refine goesL_ (some 8) rfl rfl Try.func33 (by kernel_rfl) rfl #[.string a0] rfl (by (try simp only [List.map_toArray, List.map_cons, List.map_nil]); first | done | rfl | (simp only [List.length_drop, List.length_take]; rfl)) ?_; (with_reducible refine (spec_WordNumber.calls k a0 t159 _ A2.out).mono ?_); rintro e w4 ⟨rfl, hb⟩; refine ⟨_, rfl, ?_⟩; have n0_ := Aside0.mk (below_step (by repeat (first | (with_reducible first | exact HB.out | apply below_alloc | apply pw_below_drewN | apply below_drew1) | exact HB.out)) hb); clear HB; have HB := n0_; clear n0_; (try clear hb); (try clear hb2); (try clear hk); (try clear hi)))
  (try simp only [Act.put, List.setIfInBounds_toArray, List.set_cons_zero, List.set_cons_succ])
  go_cut [16] (fun v16 wc => ∃ (kq : Nat) (x16_2 : Bool), v16 = .bool x16_2 ∧ Aside0 (spec_WordNormal.j0 kq a0 (⟨#[]⟩ : ByteArray) (wrap64 (2 - t159)) x16_2 = some (r1, r2)) ∧ Aside0 (kq ≤ k) ∧ Aside0 (Below w.heap.size w wc))
  case first =>
    have H := HC3.out
    clear HC3
    replace H := Option.bind_eq_some_iff.mp H
    obtain ⟨t160, A50, H⟩ := H
    replace H : (if t160 = true then (spec_WordNormal.j0 k a0 (⟨#[]⟩ : ByteArray) (wrap64 (2 - t159)) (decide ((wrap64 (2 - t159)) > 5))) else (spec_WordNormal.j0 k a0 (⟨#[]⟩ : ByteArray) (wrap64 (2 - t159)) true)) = some (r1, r2) := H
    have A5 := Aside0.mk A50
    clear A50
    by_cases c6 : t160 = true
    · subst c6
      have H1 : (spec_WordNormal.j0 k a0 (⟨#[]⟩ : ByteArray) (wrap64 (2 - t159)) (decide ((wrap64 (2 - t159)) > 5))) = some (r1, r2) := by rw [if_pos rfl] at H; exact H
      clear H
      have H := H1
      clear H1
      have H' := Aside0.mk H
      clear H
      go_wp2_with (first | ((with_reducible refine gate_callee (f := 28) rfl ?_); refine goesL_ (some 11) rfl rfl Try.func28 (by kernel_rfl) rfl #[.string a0] rfl (by (try simp only [List.map_toArray, List.map_cons, List.map_nil]); first | done | rfl | (simp only [List.length_drop, List.length_take]; rfl)) ?_; (with_reducible refine (spec_WordValid.calls k a0 true _ A5.out).mono ?_); rintro e w' ⟨rfl, ⟨nd, rfl⟩⟩; refine ⟨_, rfl, ?_⟩))
      go_meet
      case rel => exact ⟨_, (decide ((wrap64 (2 - t159)) > 5)), (by first | rfl | (simp; done) | (simp [*]; done)), H', ⟨by first | omega | exact Nat.le_refl _⟩, ⟨by repeat (first | (with_reducible first | exact HB.out | apply below_alloc | apply pw_below_drewN | apply below_drew1) | exact HB.out)⟩⟩
    · replace c6 := Bool.eq_false_iff.mpr c6
      subst c6
      have H1 : (spec_WordNormal.j0 k a0 (⟨#[]⟩ : ByteArray) (wrap64 (2 - t159)) true) = some (r1, r2) := by rw [if_neg (show ¬ (false = true) by decide)] at H; exact H
      clear H
      have H := H1
      clear H1
      have H' := Aside0.mk H
      clear H
      go_wp2_with (first | ((with_reducible refine gate_callee (f := 28) rfl ?_); refine goesL_ (some 11) rfl rfl Try.func28 (by kernel_rfl) rfl #[.string a0] rfl (by (try simp only [List.map_toArray, List.map_cons, List.map_nil]); first | done | rfl | (simp only [List.length_drop, List.length_take]; rfl)) ?_; (with_reducible refine (spec_WordValid.calls k a0 false _ A5.out).mono ?_); rintro e w' ⟨rfl, ⟨nd, rfl⟩⟩; refine ⟨_, rfl, ?_⟩))
      go_meet
      case rel => exact ⟨_, (true), (by first | rfl | (simp; done) | (simp [*]; done)), H', ⟨by first | omega | exact Nat.le_refl _⟩, ⟨by repeat (first | (with_reducible first | exact HB.out | apply below_alloc | apply pw_below_drewN | apply below_drew1) | exact HB.out)⟩⟩
  case rest =>
    clear HC3
    try clear c2
    try clear p2
    try clear c3
    try clear c6
    try clear p6
    obtain ⟨kq, x16_2, rfl, HA, HJ2, HB⟩ := hcut
    cases kq with
    | zero => exact absurd HA.out (by simp [spec_WordNormal.j0])
    | succ kj2 =>
      have H := HA.out
      clear HA
      simp only [spec_WordNormal.j0] at H
      by_cases c7 : x16_2 = true
      · subst c7
        have H1 : (some ((⟨#[]⟩ : ByteArray), false)) = some (r1, r2) := by rw [if_pos rfl] at H; exact H
        clear H
        have H := H1
        clear H1
        simp only [Option.some.injEq, Prod.mk.injEq] at H
        obtain ⟨rfl, rfl⟩ := H
        go_wp2
        go_ret2
        exact ⟨by first | rfl | (simp [errW_none, errW_some] <;> rfl) | (simp [*, errW_none, errW_some] <;> rfl), by repeat (first | (with_reducible first | exact HB.out | apply below_alloc | apply pw_below_drewN | apply below_drew1) | exact HB.out)⟩
      · replace c7 := Bool.eq_false_iff.mpr c7
        subst c7
        have H1 : (if (wrap64 (2 - t159)) = 0 then (some ((⟨#[97, 65]⟩ : ByteArray), true)) else (spec_WordNormal.l0 kj2 a0 (⟨#[]⟩ : ByteArray) (wrap64 (2 - t159)) 0)) = some (r1, r2) := by rw [if_neg (show ¬ (false = true) by decide)] at H; exact H
        clear H
        have H := H1
        clear H1
        by_cases c8 : (wrap64 (2 - t159)) = 0
        · rw [if_pos c8] at H
          have c8b0 : ((wrap64 (2 - t159)) == 0) = true := beq_iff_eq.mpr c8
          have c8b1 : ((wrap64 (2 - t159)) != 0) = false := bne_eq_false_iff_eq.mpr c8
          clear c8
          simp only [Option.some.injEq, Prod.mk.injEq] at H
          obtain ⟨rfl, rfl⟩ := H
          go_wp2
          go_ret2
          exact ⟨by first | rfl | (simp [errW_none, errW_some] <;> rfl) | (simp [*, errW_none, errW_some] <;> rfl), by repeat (first | (with_reducible first | exact HB.out | apply below_alloc | apply pw_below_drewN | apply below_drew1) | exact HB.out)⟩
        · rw [if_neg c8] at H
          have c8b0 : ((wrap64 (2 - t159)) == 0) = false := beq_eq_false_iff_ne.mpr c8
          have c8b1 : ((wrap64 (2 - t159)) != 0) = true := bne_iff_ne.mpr c8
          have H' := Aside0.mk H
          clear H
          go_wp2
          go_loopg [4, 6] kj2 (fun kq v4 v6 w' => ∃ (x4_2 : ByteArray) (x6_2 : Int), v4 = .string x4_2 ∧ v6 = .int .i64 x6_2 ∧ Aside0 (spec_WordNormal.l0 kq a0 x4_2 (wrap64 (2 - t159)) x6_2 = some (r1, r2)) ∧ Aside0 (kq ≤ kj2) ∧ Aside0 (Below w.heap.size w w'))
          case atStart => exact ⟨((⟨#[]⟩ : ByteArray)), (0), (by first | rfl | (simp; done) | (simp [*]; done)), (by first | rfl | (simp; done) | (simp [*]; done)), H', ⟨Nat.le_refl _⟩, ⟨by repeat (first | (with_reducible first | exact HB.out | apply below_alloc | apply pw_below_drewN | apply below_drew1) | exact HB.out)⟩⟩
          case round =>
            clear H'
            try clear c2
            try clear p2
            try clear c3
            try clear c6
            try clear p6
            try clear c7
            try clear c8
            try clear c8b0
            try clear c8b1
            try clear p2
            try clear p6
            obtain ⟨x4_2, x6_2, rfl, rfl, HA, HK2, HB⟩ := hrel
            cases gk with
            | zero => exact absurd HA.out (by simp [spec_WordNormal.l0])
            | succ k2 =>
              have H := HA.out
              clear HA
              simp only [spec_WordNormal.l0] at H
              by_cases c9 : x6_2 < (wrap64 (2 - t159))
              · rw [if_pos c9] at H
                have c9b0 : decide (x6_2 < (wrap64 (2 - t159))) = true := decide_eq_true c9
                clear c9
                replace H := Option.bind_eq_some_iff.mp H
                obtain ⟨t161, A100, H⟩ := H
                replace H : (if t161 = true then (if (Int.tmod x6_2 2) = 1 then ((spec_l8Name.f (wrap64 (x6_2 - 1)) true).bind fun t162 => (if x4_2.size + t162.size ≤ 9223372036854775807 then ((spec_l8Name.f x6_2 true).bind fun t163 => (if (x4_2 ++ t162).size + t163.size ≤ 9223372036854775807 then ((spec_l8Name.f (wrap64 (x6_2 - 1)) false).bind fun t164 => (if ((x4_2 ++ t162) ++ t163).size + t164.size ≤ 9223372036854775807 then ((spec_l8Name.f x6_2 false).bind fun t165 => (if (((x4_2 ++ t162) ++ t163) ++ t164).size + t165.size ≤ 9223372036854775807 then (spec_WordNormal.l0 k2 a0 ((((x4_2 ++ t162) ++ t163) ++ t164) ++ t165) (wrap64 (2 - t159)) (wrap64 (x6_2 + 1))) else (none))) else (none))) else (none))) else (none))) else (spec_WordNormal.l0 k2 a0 x4_2 (wrap64 (2 - t159)) (wrap64 (x6_2 + 1)))) else ((spec_l8Name.f x6_2 true).bind fun t166 => (if x4_2.size + t166.size ≤ 9223372036854775807 then ((spec_l8Name.f x6_2 true).bind fun t167 => (if (x4_2 ++ t166).size + t167.size ≤ 9223372036854775807 then (spec_WordNormal.l0 k2 a0 ((x4_2 ++ t166) ++ t167) (wrap64 (2 - t159)) (wrap64 (x6_2 + 1))) else (none))) else (none)))) = some (r1, r2) := H
                have A10 := Aside0.mk A100
                clear A100
                by_cases c11 : t161 = true
                · subst c11
                  have H1 : (if (Int.tmod x6_2 2) = 1 then ((spec_l8Name.f (wrap64 (x6_2 - 1)) true).bind fun t162 => (if x4_2.size + t162.size ≤ 9223372036854775807 then ((spec_l8Name.f x6_2 true).bind fun t163 => (if (x4_2 ++ t162).size + t163.size ≤ 9223372036854775807 then ((spec_l8Name.f (wrap64 (x6_2 - 1)) false).bind fun t164 => (if ((x4_2 ++ t162) ++ t163).size + t164.size ≤ 9223372036854775807 then ((spec_l8Name.f x6_2 false).bind fun t165 => (if (((x4_2 ++ t162) ++ t163) ++ t164).size + t165.size ≤ 9223372036854775807 then (spec_WordNormal.l0 k2 a0 ((((x4_2 ++ t162) ++ t163) ++ t164) ++ t165) (wrap64 (2 - t159)) (wrap64 (x6_2 + 1))) else (none))) else (none))) else (none))) else (none))) else (spec_WordNormal.l0 k2 a0 x4_2 (wrap64 (2 - t159)) (wrap64 (x6_2 + 1)))) = some (r1, r2) := by rw [if_pos rfl] at H; exact H
                  clear H
                  have H := H1
                  clear H1
                  by_cases c12 : (Int.tmod x6_2 2) = 1
                  · rw [if_pos c12] at H
                    have c12b0 : ((Int.tmod x6_2 2) == 1) = true := beq_iff_eq.mpr c12
                    have c12b1 : ((Int.tmod x6_2 2) != 1) = false := bne_eq_false_iff_eq.mpr c12
                    clear c12
                    replace H := Option.bind_eq_some_iff.mp H
                    obtain ⟨t162, A130, H⟩ := H
                    replace H : (if x4_2.size + t162.size ≤ 9223372036854775807 then ((spec_l8Name.f x6_2 true).bind fun t163 => (if (x4_2 ++ t162).size + t163.size ≤ 9223372036854775807 then ((spec_l8Name.f (wrap64 (x6_2 - 1)) false).bind fun t164 => (if ((x4_2 ++ t162) ++ t163).size + t164.size ≤ 9223372036854775807 then ((spec_l8Name.f x6_2 false).bind fun t165 => (if (((x4_2 ++ t162) ++ t163) ++ t164).size + t165.size ≤ 9223372036854775807 then (spec_WordNormal.l0 k2 a0 ((((x4_2 ++ t162) ++ t163) ++ t164) ++ t165) (wrap64 (2 - t159)) (wrap64 (x6_2 + 1))) else (none))) else (none))) else (none))) else (none)) = some (r1, r2) := H
                    have A13 := Aside0.mk A130
                    clear A130
                    by_cases c14 : x4_2.size + t162.size ≤ 9223372036854775807
                    · rw [if_pos c14] at H
                      have c14b0 := eq_true c14
                      have c14b1 : decide (x4_2.size + t162.size ≤ 9223372036854775807) = true := decide_eq_true c14
                      try have c14b2 : (9223372036854775807 < x4_2.size + t162.size) = False := eq_false (Nat.not_lt.2 c14)
                      obtain ⟨zs15, hzs15⟩ : ∃ j_ : ByteArray, (x4_2 ++ t162) = j_ := ⟨_, rfl⟩
                      replace H : ((spec_l8Name.f x6_2 true).bind fun t163 => (if zs15.size + t163.size ≤ 9223372036854775807 then ((spec_l8Name.f (wrap64 (x6_2 - 1)) false).bind fun t164 => (if (zs15 ++ t163).size + t164.size ≤ 9223372036854775807 then ((spec_l8Name.f x6_2 false).bind fun t165 => (if ((zs15 ++ t163) ++ t164).size + t165.size ≤ 9223372036854775807 then (spec_WordNormal.l0 k2 a0 (((zs15 ++ t163) ++ t164) ++ t165) (wrap64 (2 - t159)) (wrap64 (x6_2 + 1))) else (none))) else (none))) else (none))) = some (r1, r2) := by first | (rw [hzs15] at H; exact H) | (simp only [hzs15] at H ⊢; exact H) | exact H
                      (try rw [hzs15] at A10)
                      (try rw [hzs15] at A13)
                      replace H := Option.bind_eq_some_iff.mp H
                      obtain ⟨t163, A160, H⟩ := H
                      replace H : (if zs15.size + t163.size ≤ 9223372036854775807 then ((spec_l8Name.f (wrap64 (x6_2 - 1)) false).bind fun t164 => (if (zs15 ++ t163).size + t164.size ≤ 9223372036854775807 then ((spec_l8Name.f x6_2 false).bind fun t165 => (if ((zs15 ++ t163) ++ t164).size + t165.size ≤ 9223372036854775807 then (spec_WordNormal.l0 k2 a0 (((zs15 ++ t163) ++ t164) ++ t165) (wrap64 (2 - t159)) (wrap64 (x6_2 + 1))) else (none))) else (none))) else (none)) = some (r1, r2) := H
                      have A16 := Aside0.mk A160
                      clear A160
                      by_cases c17 : zs15.size + t163.size ≤ 9223372036854775807
                      · rw [if_pos c17] at H
                        have c17b0 := eq_true c17
                        have c17b1 : decide (zs15.size + t163.size ≤ 9223372036854775807) = true := decide_eq_true c17
                        try have c17b2 : (9223372036854775807 < zs15.size + t163.size) = False := eq_false (Nat.not_lt.2 c17)
                        obtain ⟨zs18, hzs18⟩ : ∃ j_ : ByteArray, (zs15 ++ t163) = j_ := ⟨_, rfl⟩
                        replace H : ((spec_l8Name.f (wrap64 (x6_2 - 1)) false).bind fun t164 => (if zs18.size + t164.size ≤ 9223372036854775807 then ((spec_l8Name.f x6_2 false).bind fun t165 => (if (zs18 ++ t164).size + t165.size ≤ 9223372036854775807 then (spec_WordNormal.l0 k2 a0 ((zs18 ++ t164) ++ t165) (wrap64 (2 - t159)) (wrap64 (x6_2 + 1))) else (none))) else (none))) = some (r1, r2) := by first | (rw [hzs18] at H; exact H) | (simp only [hzs18] at H ⊢; exact H) | exact H
                        (try rw [hzs18] at A10)
                        (try rw [hzs18] at A13)
                        (try rw [hzs18] at A16)
                        replace H := Option.bind_eq_some_iff.mp H
                        obtain ⟨t164, A190, H⟩ := H
                        replace H : (if zs18.size + t164.size ≤ 9223372036854775807 then ((spec_l8Name.f x6_2 false).bind fun t165 => (if (zs18 ++ t164).size + t165.size ≤ 9223372036854775807 then (spec_WordNormal.l0 k2 a0 ((zs18 ++ t164) ++ t165) (wrap64 (2 - t159)) (wrap64 (x6_2 + 1))) else (none))) else (none)) = some (r1, r2) := H
                        have A19 := Aside0.mk A190
                        clear A190
                        by_cases c20 : zs18.size + t164.size ≤ 9223372036854775807
                        · rw [if_pos c20] at H
                          have c20b0 := eq_true c20
                          have c20b1 : decide (zs18.size + t164.size ≤ 9223372036854775807) = true := decide_eq_true c20
                          try have c20b2 : (9223372036854775807 < zs18.size + t164.size) = False := eq_false (Nat.not_lt.2 c20)
                          obtain ⟨zs21, hzs21⟩ : ∃ j_ : ByteArray, (zs18 ++ t164) = j_ := ⟨_, rfl⟩
                          replace H : ((spec_l8Name.f x6_2 false).bind fun t165 => (if zs21.size + t165.size ≤ 9223372036854775807 then (spec_WordNormal.l0 k2 a0 (zs21 ++ t165) (wrap64 (2 - t159)) (wrap64 (x6_2 + 1))) else (none))) = some (r1, r2) := by first | (rw [hzs21] at H; exact H) | (simp only [hzs21] at H ⊢; exact H) | exact H
                          (try rw [hzs21] at A10)
                          (try rw [hzs21] at A13)
                          (try rw [hzs21] at A16)
                          (try rw [hzs21] at A19)
                          replace H := Option.bind_eq_some_iff.mp H
                          obtain ⟨t165, A220, H⟩ := H
                          replace H : (if zs21.size + t165.size ≤ 9223372036854775807 then (spec_WordNormal.l0 k2 a0 (zs21 ++ t165) (wrap64 (2 - t159)) (wrap64 (x6_2 + 1))) else (none)) = some (r1, r2) := H
                          have A22 := Aside0.mk A220
                          clear A220
                          by_cases c23 : zs21.size + t165.size ≤ 9223372036854775807
                          · rw [if_pos c23] at H
                            have c23b0 := eq_true c23
                            have c23b1 : decide (zs21.size + t165.size ≤ 9223372036854775807) = true := decide_eq_true c23
                            try have c23b2 : (9223372036854775807 < zs21.size + t165.size) = False := eq_false (Nat.not_lt.2 c23)
                            obtain ⟨zs24, hzs24⟩ : ∃ j_ : ByteArray, (zs21 ++ t165) = j_ := ⟨_, rfl⟩
                            replace H : (spec_WordNormal.l0 k2 a0 zs24 (wrap64 (2 - t159)) (wrap64 (x6_2 + 1))) = some (r1, r2) := by first | (rw [hzs24] at H; exact H) | (simp only [hzs24] at H ⊢; exact H) | exact H
                            (try rw [hzs24] at A10)
                            (try rw [hzs24] at A13)
                            (try rw [hzs24] at A16)
                            (try rw [hzs24] at A19)
                            (try rw [hzs24] at A22)
                            have H' := Aside0.mk H
                            clear H
                            go_wp2_with (first | ((with_reducible refine gate_callee (f := 13) rfl ?_); refine goesL_ (some 26) rfl rfl Try.func13 (by kernel_rfl) rfl #[.string a0] rfl (by (try simp only [List.map_toArray, List.map_cons, List.map_nil]); first | done | rfl | (simp only [List.length_drop, List.length_take]; rfl)) ?_; (with_reducible refine (spec_WordSided.calls k2 a0 true _ A10.out).mono ?_); rintro e w' ⟨rfl, ⟨nd, rfl⟩⟩; refine ⟨_, rfl, ?_⟩) | ((with_reducible refine gate_callee (f := 45) rfl ?_); refine goesL_ (some 42) rfl rfl Try.func45 (by kernel_rfl) rfl #[.int .i64 (wrap64 (x6_2 - 1)), .bool true] rfl (by (try simp only [List.map_toArray, List.map_cons, List.map_nil]); first | done | rfl | (simp only [List.length_drop, List.length_take]; rfl)) ?_; (with_reducible refine (spec_l8Name.calls (wrap64 (x6_2 - 1)) true t162 _ A13.out).mono ?_); rintro e w25 ⟨rfl, hb⟩; refine ⟨_, rfl, ?_⟩; have n0_ := Aside0.mk (below_step (by repeat (first | (with_reducible first | exact HB.out | apply below_alloc | apply pw_below_drewN | apply below_drew1) | exact HB.out)) hb); clear HB; have HB := n0_; clear n0_; (try clear hb); (try clear hb2); (try clear hk); (try clear hi)) | ((with_reducible refine gate_callee (f := 45) rfl ?_); refine goesL_ (some 45) rfl rfl Try.func45 (by kernel_rfl) rfl #[.int .i64 x6_2, .bool true] rfl (by (try simp only [List.map_toArray, List.map_cons, List.map_nil]); first | done | rfl | (simp only [List.length_drop, List.length_take]; rfl)) ?_; (with_reducible refine (spec_l8Name.calls x6_2 true t163 _ A16.out).mono ?_); rintro e w26 ⟨rfl, hb⟩; refine ⟨_, rfl, ?_⟩; have n0_ := Aside0.mk (below_step (by repeat (first | (with_reducible first | exact HB.out | apply below_alloc | apply pw_below_drewN | apply below_drew1) | exact HB.out)) hb); clear HB; have HB := n0_; clear n0_; (try clear hb); (try clear hb2); (try clear hk); (try clear hi)) | ((with_reducible refine gate_callee (f := 45) rfl ?_); refine goesL_ (some 49) rfl rfl Try.func45 (by kernel_rfl) rfl #[.int .i64 (wrap64 (x6_2 - 1)), .bool false] rfl (by (try simp only [List.map_toArray, List.map_cons, List.map_nil]); first | done | rfl | (simp only [List.length_drop, List.length_take]; rfl)) ?_; (with_reducible refine (spec_l8Name.calls (wrap64 (x6_2 - 1)) false t164 _ A19.out).mono ?_); rintro e w27 ⟨rfl, hb⟩; refine ⟨_, rfl, ?_⟩; have n0_ := Aside0.mk (below_step (by repeat (first | (with_reducible first | exact HB.out | apply below_alloc | apply pw_below_drewN | apply below_drew1) | exact HB.out)) hb); clear HB; have HB := n0_; clear n0_; (try clear hb); (try clear hb2); (try clear hk); (try clear hi)) | ((with_reducible refine gate_callee (f := 45) rfl ?_); refine goesL_ (some 52) rfl rfl Try.func45 (by kernel_rfl) rfl #[.int .i64 x6_2, .bool false] rfl (by (try simp only [List.map_toArray, List.map_cons, List.map_nil]); first | done | rfl | (simp only [List.length_drop, List.length_take]; rfl)) ?_; (with_reducible refine (spec_l8Name.calls x6_2 false t165 _ A22.out).mono ?_); rintro e w28 ⟨rfl, hb⟩; refine ⟨_, rfl, ?_⟩; have n0_ := Aside0.mk (below_step (by repeat (first | (with_reducible first | exact HB.out | apply below_alloc | apply pw_below_drewN | apply below_drew1) | exact HB.out)) hb); clear HB; have HB := n0_; clear n0_; (try clear hb); (try clear hb2); (try clear hk); (try clear hi)))
                            go_roundg k2
                            case measure => have := HJ2.out; have := HK2.out; omega
                            case rel => exact ⟨(zs24), (wrap64 (x6_2 + 1)), (by first | rfl | (simp; done) | (simp [*]; done)), (by first | rfl | (simp; done) | (simp [*]; done)), H', ⟨by have := HJ2.out; have := HK2.out; omega⟩, ⟨by repeat (first | (with_reducible first | exact HB.out | apply below_alloc | apply pw_below_drewN | apply below_drew1) | exact HB.out)⟩⟩
                          · rw [if_neg c23] at H
                            exact absurd H (by simp)
                        · rw [if_neg c20] at H
                          exact absurd H (by simp)
                      · rw [if_neg c17] at H
                        exact absurd H (by simp)
                    · rw [if_neg c14] at H
                      exact absurd H (by simp)
                  · rw [if_neg c12] at H
                    have c12b0 : ((Int.tmod x6_2 2) == 1) = false := beq_eq_false_iff_ne.mpr c12
                    have c12b1 : ((Int.tmod x6_2 2) != 1) = true := bne_iff_ne.mpr c12
                    have H' := Aside0.mk H
                    clear H
                    go_wp2_with (first | ((with_reducible refine gate_callee (f := 13) rfl ?_); refine goesL_ (some 26) rfl rfl Try.func13 (by kernel_rfl) rfl #[.string a0] rfl (by (try simp only [List.map_toArray, List.map_cons, List.map_nil]); first | done | rfl | (simp only [List.length_drop, List.length_take]; rfl)) ?_; (with_reducible refine (spec_WordSided.calls k2 a0 true _ A10.out).mono ?_); rintro e w' ⟨rfl, ⟨nd, rfl⟩⟩; refine ⟨_, rfl, ?_⟩))
                    go_roundg k2
                    case measure => have := HJ2.out; have := HK2.out; omega
                    case rel => exact ⟨(x4_2), (wrap64 (x6_2 + 1)), (by first | rfl | (simp; done) | (simp [*]; done)), (by first | rfl | (simp; done) | (simp [*]; done)), H', ⟨by have := HJ2.out; have := HK2.out; omega⟩, ⟨by repeat (first | (with_reducible first | exact HB.out | apply below_alloc | apply pw_below_drewN | apply below_drew1) | exact HB.out)⟩⟩
                · replace c11 := Bool.eq_false_iff.mpr c11
                  subst c11
                  have H1 : ((spec_l8Name.f x6_2 true).bind fun t166 => (if x4_2.size + t166.size ≤ 9223372036854775807 then ((spec_l8Name.f x6_2 true).bind fun t167 => (if (x4_2 ++ t166).size + t167.size ≤ 9223372036854775807 then (spec_WordNormal.l0 k2 a0 ((x4_2 ++ t166) ++ t167) (wrap64 (2 - t159)) (wrap64 (x6_2 + 1))) else (none))) else (none))) = some (r1, r2) := by rw [if_neg (show ¬ (false = true) by decide)] at H; exact H
                  clear H
                  have H := H1
                  clear H1
                  replace H := Option.bind_eq_some_iff.mp H
                  obtain ⟨t166, A290, H⟩ := H
                  replace H : (if x4_2.size + t166.size ≤ 9223372036854775807 then ((spec_l8Name.f x6_2 true).bind fun t167 => (if (x4_2 ++ t166).size + t167.size ≤ 9223372036854775807 then (spec_WordNormal.l0 k2 a0 ((x4_2 ++ t166) ++ t167) (wrap64 (2 - t159)) (wrap64 (x6_2 + 1))) else (none))) else (none)) = some (r1, r2) := H
                  have A29 := Aside0.mk A290
                  clear A290
                  by_cases c30 : x4_2.size + t166.size ≤ 9223372036854775807
                  · rw [if_pos c30] at H
                    have c30b0 := eq_true c30
                    have c30b1 : decide (x4_2.size + t166.size ≤ 9223372036854775807) = true := decide_eq_true c30
                    try have c30b2 : (9223372036854775807 < x4_2.size + t166.size) = False := eq_false (Nat.not_lt.2 c30)
                    obtain ⟨zs31, hzs31⟩ : ∃ j_ : ByteArray, (x4_2 ++ t166) = j_ := ⟨_, rfl⟩
                    replace H : ((spec_l8Name.f x6_2 true).bind fun t167 => (if zs31.size + t167.size ≤ 9223372036854775807 then (spec_WordNormal.l0 k2 a0 (zs31 ++ t167) (wrap64 (2 - t159)) (wrap64 (x6_2 + 1))) else (none))) = some (r1, r2) := by first | (rw [hzs31] at H; exact H) | (simp only [hzs31] at H ⊢; exact H) | exact H
                    (try rw [hzs31] at A10)
                    (try rw [hzs31] at A29)
                    replace H := Option.bind_eq_some_iff.mp H
                    obtain ⟨t167, A320, H⟩ := H
                    replace H : (if zs31.size + t167.size ≤ 9223372036854775807 then (spec_WordNormal.l0 k2 a0 (zs31 ++ t167) (wrap64 (2 - t159)) (wrap64 (x6_2 + 1))) else (none)) = some (r1, r2) := H
                    have A32 := Aside0.mk A320
                    clear A320
                    by_cases c33 : zs31.size + t167.size ≤ 9223372036854775807
                    · rw [if_pos c33] at H
                      have c33b0 := eq_true c33
                      have c33b1 : decide (zs31.size + t167.size ≤ 9223372036854775807) = true := decide_eq_true c33
                      try have c33b2 : (9223372036854775807 < zs31.size + t167.size) = False := eq_false (Nat.not_lt.2 c33)
                      obtain ⟨zs34, hzs34⟩ : ∃ j_ : ByteArray, (zs31 ++ t167) = j_ := ⟨_, rfl⟩
                      replace H : (spec_WordNormal.l0 k2 a0 zs34 (wrap64 (2 - t159)) (wrap64 (x6_2 + 1))) = some (r1, r2) := by first | (rw [hzs34] at H; exact H) | (simp only [hzs34] at H ⊢; exact H) | exact H
                      (try rw [hzs34] at A10)
                      (try rw [hzs34] at A29)
                      (try rw [hzs34] at A32)
                      have H' := Aside0.mk H
                      clear H
                      go_wp2_with (first | ((with_reducible refine gate_callee (f := 13) rfl ?_); refine goesL_ (some 26) rfl rfl Try.func13 (by kernel_rfl) rfl #[.string a0] rfl (by (try simp only [List.map_toArray, List.map_cons, List.map_nil]); first | done | rfl | (simp only [List.length_drop, List.length_take]; rfl)) ?_; (with_reducible refine (spec_WordSided.calls k2 a0 false _ A10.out).mono ?_); rintro e w' ⟨rfl, ⟨nd, rfl⟩⟩; refine ⟨_, rfl, ?_⟩) | ((with_reducible refine gate_callee (f := 45) rfl ?_); refine goesL_ (some 30) rfl rfl Try.func45 (by kernel_rfl) rfl #[.int .i64 x6_2, .bool true] rfl (by (try simp only [List.map_toArray, List.map_cons, List.map_nil]); first | done | rfl | (simp only [List.length_drop, List.length_take]; rfl)) ?_; (with_reducible refine (spec_l8Name.calls x6_2 true t166 _ A29.out).mono ?_); rintro e w35 ⟨rfl, hb⟩; refine ⟨_, rfl, ?_⟩; have n0_ := Aside0.mk (below_step (by repeat (first | (with_reducible first | exact HB.out | apply below_alloc | apply pw_below_drewN | apply below_drew1) | exact HB.out)) hb); clear HB; have HB := n0_; clear n0_; (try clear hb); (try clear hb2); (try clear hk); (try clear hi)) | ((with_reducible refine gate_callee (f := 45) rfl ?_); refine goesL_ (some 33) rfl rfl Try.func45 (by kernel_rfl) rfl #[.int .i64 x6_2, .bool true] rfl (by (try simp only [List.map_toArray, List.map_cons, List.map_nil]); first | done | rfl | (simp only [List.length_drop, List.length_take]; rfl)) ?_; (with_reducible refine (spec_l8Name.calls x6_2 true t167 _ A32.out).mono ?_); rintro e w36 ⟨rfl, hb⟩; refine ⟨_, rfl, ?_⟩; have n0_ := Aside0.mk (below_step (by repeat (first | (with_reducible first | exact HB.out | apply below_alloc | apply pw_below_drewN | apply below_drew1) | exact HB.out)) hb); clear HB; have HB := n0_; clear n0_; (try clear hb); (try clear hb2); (try clear hk); (try clear hi)))
                      go_roundg k2
                      case measure => have := HJ2.out; have := HK2.out; omega
                      case rel => exact ⟨(zs34), (wrap64 (x6_2 + 1)), (by first | rfl | (simp; done) | (simp [*]; done)), (by first | rfl | (simp; done) | (simp [*]; done)), H', ⟨by have := HJ2.out; have := HK2.out; omega⟩, ⟨by repeat (first | (with_reducible first | exact HB.out | apply below_alloc | apply pw_below_drewN | apply below_drew1) | exact HB.out)⟩⟩
                    · rw [if_neg c33] at H
                      exact absurd H (by simp)
                  · rw [if_neg c30] at H
                    exact absurd H (by simp)
              · rw [if_neg c9] at H
                have c9b0 : decide (x6_2 < (wrap64 (2 - t159))) = false := decide_eq_false c9
                clear c9
                simp only [Option.some.injEq, Prod.mk.injEq] at H
                obtain ⟨rfl, rfl⟩ := H
                go_wp2
                go_ret2
                exact ⟨by first | rfl | (simp [errW_none, errW_some] <;> rfl) | (simp [*, errW_none, errW_some] <;> rfl), by repeat (first | (with_reducible first | exact HB.out | apply below_alloc | apply pw_below_drewN | apply below_drew1) | exact HB.out)⟩

/-! ### impl_letterOf: function 52 -/
def impl_letterOf.f (a0 : Int) : Option (Int) := if (Go.bits .or .u8 a0 32) < 97 then (some (-1)) else (if (wrap64 ((wrap64 (Go.bits .or .u8 a0 32)) - 97)) ≥ 5 then (some (-1)) else (if a0 < 65 then (some (-1)) else (some (wrap64 ((wrap64 (Go.bits .or .u8 a0 32)) - 97)))))
set_option maxHeartbeats 8000000 in
set_option maxRecDepth 100000 in
theorem impl_letterOf.calls (a0 : Int) (r : Int) (w : World) (h : impl_letterOf.f a0 = some r) :
    Calls Try.prog 52 #[.int .u8 a0] w fun e w' => e = .returned (.int .i64 r) ∧ Drawn0 w w' := by
  have H : (if (Go.bits .or .u8 a0 32) < 97 then (some (-1)) else (if (wrap64 ((wrap64 (Go.bits .or .u8 a0 32)) - 97)) ≥ 5 then (some (-1)) else (if a0 < 65 then (some (-1)) else (some (wrap64 ((wrap64 (Go.bits .or .u8 a0 32)) - 97)))))) = some r := h
  clear h
  by_cases c2 : (Go.bits .or .u8 a0 32) < 97
  · rw [if_pos c2] at H
    have c2b0 : decide ((Go.bits .or .u8 a0 32) < 97) = true := decide_eq_true c2
    clear c2
    obtain rfl := Option.some.inj H
    go_enter Try.func52, Try.ntmps52
    go_wp2
    go_ret
    exact ⟨by first | rfl | (simp; done) | (simp [*]; done), by repeat (first | exact Drawn0.refl _ | apply Drawn0.step)⟩
  · rw [if_neg c2] at H
    have c2b0 : decide ((Go.bits .or .u8 a0 32) < 97) = false := decide_eq_false c2
    clear c2
    by_cases c3 : (wrap64 ((wrap64 (Go.bits .or .u8 a0 32)) - 97)) ≥ 5
    · rw [if_pos c3] at H
      have c3b0 : decide (5 ≤ (wrap64 ((wrap64 (Go.bits .or .u8 a0 32)) - 97))) = true := decide_eq_true c3
      clear c3
      obtain rfl := Option.some.inj H
      go_enter Try.func52, Try.ntmps52
      go_wp2
      go_ret
      exact ⟨by first | rfl | (simp; done) | (simp [*]; done), by repeat (first | exact Drawn0.refl _ | apply Drawn0.step)⟩
    · rw [if_neg c3] at H
      have c3b0 : decide (5 ≤ (wrap64 ((wrap64 (Go.bits .or .u8 a0 32)) - 97))) = false := decide_eq_false c3
      clear c3
      by_cases c4 : a0 < 65
      · rw [if_pos c4] at H
        have c4b0 : decide (a0 < 65) = true := decide_eq_true c4
        clear c4
        obtain rfl := Option.some.inj H
        go_enter Try.func52, Try.ntmps52
        go_wp2
        go_ret
        exact ⟨by first | rfl | (simp; done) | (simp [*]; done), by repeat (first | exact Drawn0.refl _ | apply Drawn0.step)⟩
      · rw [if_neg c4] at H
        have c4b0 : decide (a0 < 65) = false := decide_eq_false c4
        clear c4
        obtain rfl := Option.some.inj H
        go_enter Try.func52, Try.ntmps52
        go_wp2
        go_ret
        exact ⟨by first | rfl | (simp; done) | (simp [*]; done), by repeat (first | exact Drawn0.refl _ | apply Drawn0.step)⟩

end Go.Proofs.Ytdbglmnialieoaa.PFnExactWordNormal
