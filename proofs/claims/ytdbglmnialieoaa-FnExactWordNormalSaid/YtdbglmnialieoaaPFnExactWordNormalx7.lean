-- Made by a program of this session (wip/tools) out of the loaded program; not trusted: Lean checks it.
import Derived.Test.YtdbglmnialieoaaPFnExactWordNormalx0
import Derived.Test.YtdbglmnialieoaaPFnExactWordNormalx3
import Derived.Test.YtdbglmnialieoaaPFnExactWordNormalx4
import Derived.Test.YtdbglmnialieoaaPFnExactWordNormalx6
namespace Go.Proofs.Ytdbglmnialieoaa.PFnExactWordNormal
open Go.RowKit Go.Proofs.YtdbglmnialieoaaW.PrintWords Go.Proofs.YtdbglmnialieoaaW.PrintLast Go.Proofs.YtdbglmnialieoaaW.PrintMore
attribute [local go_sem] max2_int min2_int max_two min_two max_three min_three max_four min_four   -- for this text's walks alone
set_option linter.unusedVariables false
set_option linter.unusedSimpArgs false

/-! ### impl_WordNumber: function 34 -/
def impl_WordNumber.f (k : Nat) (a0 : ByteArray) : Option (Int) := (impl_WordValid.f a0).bind fun t218 => (if t218 = true then ((impl_cornersOf.f k a0).bind fun t219 => (some (wrap64 ((wrap64 (t219 - (wrap64 ((a0.size : Int) / 2)))) + 1)))) else (some (-100)))
theorem impl_WordNumber.mono : ∀ a0 k, LeO (impl_WordNumber.f k a0) (impl_WordNumber.f (k + 1) a0) := by
  intro a0 k
  unfold impl_WordNumber.f
  repeat' first
      | (with_reducible exact impl_cornersOf.mono _ _)
      | (with_reducible exact LeO.refl _)
      | (with_reducible exact LeO.none _)
      | (with_reducible refine LeO.ite ?_ ?_)
      | (with_reducible refine LeO.bind ?_ (fun _ => ?_))
      | exact impl_cornersOf.mono _ _
      | exact LeO.none _
      | refine LeO.ite ?_ ?_
      | refine LeO.bind ?_ (fun _ => ?_)
set_option maxHeartbeats 8000000 in
set_option maxRecDepth 100000 in
theorem impl_WordNumber.calls (k : Nat) (a0 : ByteArray) (r : Int) (w : World) (h : impl_WordNumber.f k a0 = some r) :
    Calls Try.prog 34 #[.string a0] w fun e w' => e = .returned (.int .i64 r) ∧ Below w.heap.size w w' := by
  have HB := Aside0.mk (Below.refl w.heap.size w)
  have H : ((impl_WordValid.f a0).bind fun t218 => (if t218 = true then ((impl_cornersOf.f k a0).bind fun t219 => (some (wrap64 ((wrap64 (t219 - (wrap64 ((a0.size : Int) / 2)))) + 1)))) else (some (-100)))) = some r := h
  clear h
  replace H := Option.bind_eq_some_iff.mp H
  obtain ⟨t218, A20, H⟩ := H
  replace H : (if t218 = true then ((impl_cornersOf.f k a0).bind fun t219 => (some (wrap64 ((wrap64 (t219 - (wrap64 ((a0.size : Int) / 2)))) + 1)))) else (some (-100))) = some r := H
  have A2 := Aside0.mk A20
  clear A20
  by_cases c3 : t218 = true
  · subst c3
    have H1 : ((impl_cornersOf.f k a0).bind fun t219 => (some (wrap64 ((wrap64 (t219 - (wrap64 ((a0.size : Int) / 2)))) + 1)))) = some r := by rw [if_pos rfl] at H; exact H
    clear H
    have H := H1
    clear H1
    replace H := Option.bind_eq_some_iff.mp H
    obtain ⟨t219, A40, H⟩ := H
    replace H : (some (wrap64 ((wrap64 (t219 - (wrap64 ((a0.size : Int) / 2)))) + 1))) = some r := H
    have A4 := Aside0.mk A40
    clear A40
    obtain rfl := Option.some.inj H
    go_enter Try.func34, Try.ntmps34
    go_wp2_with (first | ((with_reducible refine gate_callee (f := 27) rfl ?_); refine goesL_ (some 4) rfl rfl Try.func27 (by kernel_rfl) rfl #[.string a0] rfl (by (try simp only [List.map_toArray, List.map_cons, List.map_nil]); first | done | rfl | (simp only [List.length_drop, List.length_take]; rfl)) ?_; (with_reducible refine (impl_WordValid.calls a0 true _ A2.out).mono ?_); rintro e w5 ⟨rfl, hb⟩; refine ⟨_, rfl, ?_⟩; have n0_ := Aside0.mk (below_step (by repeat (first | (with_reducible first | exact HB.out | apply below_alloc | apply pw_below_drewN | apply below_drew1) | exact HB.out)) hb); clear HB; have HB := n0_; clear n0_; (try clear hb); (try clear hb2); (try clear hk); (try clear hi)) | ((with_reducible refine gate_callee (f := 54) rfl ?_); refine goesL_ (some 7) rfl rfl Try.func54 (by kernel_rfl) rfl #[.string a0] rfl (by (try simp only [List.map_toArray, List.map_cons, List.map_nil]); first | done | rfl | (simp only [List.length_drop, List.length_take]; rfl)) ?_; (with_reducible refine (impl_cornersOf.calls k a0 t219 _ A4.out).mono ?_); rintro e w6 ⟨rfl, hb⟩; refine ⟨_, rfl, ?_⟩; have n0_ := Aside0.mk (below_step (by repeat (first | (with_reducible first | exact HB.out | apply below_alloc | apply pw_below_drewN | apply below_drew1) | exact HB.out)) hb); clear HB; have HB := n0_; clear n0_; (try clear hb); (try clear hb2); (try clear hk); (try clear hi)))
    go_ret
    exact ⟨by first | rfl | (simp [errW_none, errW_some] <;> rfl) | (simp [*, errW_none, errW_some] <;> rfl), by repeat (first | (with_reducible first | exact HB.out | apply below_alloc | apply pw_below_drewN | apply below_drew1) | exact HB.out)⟩
  · replace c3 := Bool.eq_false_iff.mpr c3
    subst c3
    have H1 : (some (-100)) = some r := by rw [if_neg (show ¬ (false = true) by decide)] at H; exact H
    clear H
    have H := H1
    clear H1
    obtain rfl := Option.some.inj H
    go_enter Try.func34, Try.ntmps34
    go_wp2_with (first | ((with_reducible refine gate_callee (f := 27) rfl ?_); refine goesL_ (some 4) rfl rfl Try.func27 (by kernel_rfl) rfl #[.string a0] rfl (by (try simp only [List.map_toArray, List.map_cons, List.map_nil]); first | done | rfl | (simp only [List.length_drop, List.length_take]; rfl)) ?_; (with_reducible refine (impl_WordValid.calls a0 false _ A2.out).mono ?_); rintro e w7 ⟨rfl, hb⟩; refine ⟨_, rfl, ?_⟩; have n0_ := Aside0.mk (below_step (by repeat (first | (with_reducible first | exact HB.out | apply below_alloc | apply pw_below_drewN | apply below_drew1) | exact HB.out)) hb); clear HB; have HB := n0_; clear n0_; (try clear hb); (try clear hb2); (try clear hk); (try clear hi)))
    go_ret
    exact ⟨by first | rfl | (simp [errW_none, errW_some] <;> rfl) | (simp [*, errW_none, errW_some] <;> rfl), by repeat (first | (with_reducible first | exact HB.out | apply below_alloc | apply pw_below_drewN | apply below_drew1) | exact HB.out)⟩

/-! ### impl_WordNormal: function 36 -/
def impl_WordNormal.f (k : Nat) (a0 : ByteArray) : Option (ByteArray × Bool) := (impl_WordValid.f a0).bind fun t220 => (if t220 = true then ((impl_WordNumber.f k a0).bind fun t221 => ((impl_WordSided.f k a0).bind fun t222 => (if t222 = true then (if 0 ≤ (wrap64 (2 * (wrap64 (2 - t221)))) then (if (wrap64 (2 * (wrap64 (2 - t221)))) ≤ 8 then (if 0 ≤ (wrap64 (2 * (mx 0 (wrap64 (1 - (wrap64 (2 - t221))))))) then (if (wrap64 (2 * (mx 0 (wrap64 (1 - (wrap64 (2 - t221))))))) ≤ 2 then (if ((⟨#[97, 98, 65, 66, 99, 100, 67, 68]⟩ : ByteArray).extract 0 ((wrap64 (2 * (wrap64 (2 - t221)))) : Int).toNat).size + ((⟨#[97, 65]⟩ : ByteArray).extract 0 ((wrap64 (2 * (mx 0 (wrap64 (1 - (wrap64 (2 - t221))))))) : Int).toNat).size ≤ 9223372036854775807 then (some ((((⟨#[97, 98, 65, 66, 99, 100, 67, 68]⟩ : ByteArray).extract 0 ((wrap64 (2 * (wrap64 (2 - t221)))) : Int).toNat) ++ ((⟨#[97, 65]⟩ : ByteArray).extract 0 ((wrap64 (2 * (mx 0 (wrap64 (1 - (wrap64 (2 - t221))))))) : Int).toNat)), true)) else (none)) else (none)) else (none)) else (none)) else (none)) else (if 0 ≤ (wrap64 (2 * (wrap64 (2 - t221)))) then (if (wrap64 (2 * (wrap64 (2 - t221)))) ≤ 10 then (some (((⟨#[97, 97, 98, 98, 99, 99, 100, 100, 101, 101]⟩ : ByteArray).extract 0 ((wrap64 (2 * (wrap64 (2 - t221)))) : Int).toNat), true)) else (none)) else (none))))) else (some ((⟨#[]⟩ : ByteArray), false)))
theorem impl_WordNormal.mono : ∀ a0 k, LeO (impl_WordNormal.f k a0) (impl_WordNormal.f (k + 1) a0) := by
  intro a0 k
  unfold impl_WordNormal.f
  repeat' first
      | (with_reducible exact impl_WordNumber.mono _ _)
      | (with_reducible exact impl_WordSided.mono _ _)
      | (with_reducible exact LeO.refl _)
      | (with_reducible exact LeO.none _)
      | (with_reducible refine LeO.ite ?_ ?_)
      | (with_reducible refine LeO.bind ?_ (fun _ => ?_))
      | exact impl_WordNumber.mono _ _
      | exact impl_WordSided.mono _ _
      | exact LeO.none _
      | refine LeO.ite ?_ ?_
      | refine LeO.bind ?_ (fun _ => ?_)
set_option maxHeartbeats 8000000 in
set_option maxRecDepth 100000 in
theorem impl_WordNormal.calls (k : Nat) (a0 : ByteArray) (r1 : ByteArray) (r2 : Bool) (w : World) (h : impl_WordNormal.f k a0 = some (r1, r2)) :
    Calls Try.prog 36 #[.string a0] w fun e w' => e = .returned (.tuple #[.string r1, .bool r2]) ∧ Below w.heap.size w w' := by
  have HB := Aside0.mk (Below.refl w.heap.size w)
  have H : ((impl_WordValid.f a0).bind fun t220 => (if t220 = true then ((impl_WordNumber.f k a0).bind fun t221 => ((impl_WordSided.f k a0).bind fun t222 => (if t222 = true then (if 0 ≤ (wrap64 (2 * (wrap64 (2 - t221)))) then (if (wrap64 (2 * (wrap64 (2 - t221)))) ≤ 8 then (if 0 ≤ (wrap64 (2 * (mx 0 (wrap64 (1 - (wrap64 (2 - t221))))))) then (if (wrap64 (2 * (mx 0 (wrap64 (1 - (wrap64 (2 - t221))))))) ≤ 2 then (if ((⟨#[97, 98, 65, 66, 99, 100, 67, 68]⟩ : ByteArray).extract 0 ((wrap64 (2 * (wrap64 (2 - t221)))) : Int).toNat).size + ((⟨#[97, 65]⟩ : ByteArray).extract 0 ((wrap64 (2 * (mx 0 (wrap64 (1 - (wrap64 (2 - t221))))))) : Int).toNat).size ≤ 9223372036854775807 then (some ((((⟨#[97, 98, 65, 66, 99, 100, 67, 68]⟩ : ByteArray).extract 0 ((wrap64 (2 * (wrap64 (2 - t221)))) : Int).toNat) ++ ((⟨#[97, 65]⟩ : ByteArray).extract 0 ((wrap64 (2 * (mx 0 (wrap64 (1 - (wrap64 (2 - t221))))))) : Int).toNat)), true)) else (none)) else (none)) else (none)) else (none)) else (none)) else (if 0 ≤ (wrap64 (2 * (wrap64 (2 - t221)))) then (if (wrap64 (2 * (wrap64 (2 - t221)))) ≤ 10 then (some (((⟨#[97, 97, 98, 98, 99, 99, 100, 100, 101, 101]⟩ : ByteArray).extract 0 ((wrap64 (2 * (wrap64 (2 - t221)))) : Int).toNat), true)) else (none)) else (none))))) else (some ((⟨#[]⟩ : ByteArray), false)))) = some (r1, r2) := h
  clear h
  replace H := Option.bind_eq_some_iff.mp H
  obtain ⟨t220, A20, H⟩ := H
  replace H : (if t220 = true then ((impl_WordNumber.f k a0).bind fun t221 => ((impl_WordSided.f k a0).bind fun t222 => (if t222 = true then (if 0 ≤ (wrap64 (2 * (wrap64 (2 - t221)))) then (if (wrap64 (2 * (wrap64 (2 - t221)))) ≤ 8 then (if 0 ≤ (wrap64 (2 * (mx 0 (wrap64 (1 - (wrap64 (2 - t221))))))) then (if (wrap64 (2 * (mx 0 (wrap64 (1 - (wrap64 (2 - t221))))))) ≤ 2 then (if ((⟨#[97, 98, 65, 66, 99, 100, 67, 68]⟩ : ByteArray).extract 0 ((wrap64 (2 * (wrap64 (2 - t221)))) : Int).toNat).size + ((⟨#[97, 65]⟩ : ByteArray).extract 0 ((wrap64 (2 * (mx 0 (wrap64 (1 - (wrap64 (2 - t221))))))) : Int).toNat).size ≤ 9223372036854775807 then (some ((((⟨#[97, 98, 65, 66, 99, 100, 67, 68]⟩ : ByteArray).extract 0 ((wrap64 (2 * (wrap64 (2 - t221)))) : Int).toNat) ++ ((⟨#[97, 65]⟩ : ByteArray).extract 0 ((wrap64 (2 * (mx 0 (wrap64 (1 - (wrap64 (2 - t221))))))) : Int).toNat)), true)) else (none)) else (none)) else (none)) else (none)) else (none)) else (if 0 ≤ (wrap64 (2 * (wrap64 (2 - t221)))) then (if (wrap64 (2 * (wrap64 (2 - t221)))) ≤ 10 then (some (((⟨#[97, 97, 98, 98, 99, 99, 100, 100, 101, 101]⟩ : ByteArray).extract 0 ((wrap64 (2 * (wrap64 (2 - t221)))) : Int).toNat), true)) else (none)) else (none))))) else (some ((⟨#[]⟩ : ByteArray), false))) = some (r1, r2) := H
  have A2 := Aside0.mk A20
  clear A20
  by_cases c3 : t220 = true
  · subst c3
    have H1 : ((impl_WordNumber.f k a0).bind fun t221 => ((impl_WordSided.f k a0).bind fun t222 => (if t222 = true then (if 0 ≤ (wrap64 (2 * (wrap64 (2 - t221)))) then (if (wrap64 (2 * (wrap64 (2 - t221)))) ≤ 8 then (if 0 ≤ (wrap64 (2 * (mx 0 (wrap64 (1 - (wrap64 (2 - t221))))))) then (if (wrap64 (2 * (mx 0 (wrap64 (1 - (wrap64 (2 - t221))))))) ≤ 2 then (if ((⟨#[97, 98, 65, 66, 99, 100, 67, 68]⟩ : ByteArray).extract 0 ((wrap64 (2 * (wrap64 (2 - t221)))) : Int).toNat).size + ((⟨#[97, 65]⟩ : ByteArray).extract 0 ((wrap64 (2 * (mx 0 (wrap64 (1 - (wrap64 (2 - t221))))))) : Int).toNat).size ≤ 9223372036854775807 then (some ((((⟨#[97, 98, 65, 66, 99, 100, 67, 68]⟩ : ByteArray).extract 0 ((wrap64 (2 * (wrap64 (2 - t221)))) : Int).toNat) ++ ((⟨#[97, 65]⟩ : ByteArray).extract 0 ((wrap64 (2 * (mx 0 (wrap64 (1 - (wrap64 (2 - t221))))))) : Int).toNat)), true)) else (none)) else (none)) else (none)) else (none)) else (none)) else (if 0 ≤ (wrap64 (2 * (wrap64 (2 - t221)))) then (if (wrap64 (2 * (wrap64 (2 - t221)))) ≤ 10 then (some (((⟨#[97, 97, 98, 98, 99, 99, 100, 100, 101, 101]⟩ : ByteArray).extract 0 ((wrap64 (2 * (wrap64 (2 - t221)))) : Int).toNat), true)) else (none)) else (none))))) = some (r1, r2) := by rw [if_pos rfl] at H; exact H
    clear H
    have H := H1
    clear H1
    replace H := Option.bind_eq_some_iff.mp H
    obtain ⟨t221, A40, H⟩ := H
    replace H : ((impl_WordSided.f k a0).bind fun t222 => (if t222 = true then (if 0 ≤ (wrap64 (2 * (wrap64 (2 - t221)))) then (if (wrap64 (2 * (wrap64 (2 - t221)))) ≤ 8 then (if 0 ≤ (wrap64 (2 * (mx 0 (wrap64 (1 - (wrap64 (2 - t221))))))) then (if (wrap64 (2 * (mx 0 (wrap64 (1 - (wrap64 (2 - t221))))))) ≤ 2 then (if ((⟨#[97, 98, 65, 66, 99, 100, 67, 68]⟩ : ByteArray).extract 0 ((wrap64 (2 * (wrap64 (2 - t221)))) : Int).toNat).size + ((⟨#[97, 65]⟩ : ByteArray).extract 0 ((wrap64 (2 * (mx 0 (wrap64 (1 - (wrap64 (2 - t221))))))) : Int).toNat).size ≤ 9223372036854775807 then (some ((((⟨#[97, 98, 65, 66, 99, 100, 67, 68]⟩ : ByteArray).extract 0 ((wrap64 (2 * (wrap64 (2 - t221)))) : Int).toNat) ++ ((⟨#[97, 65]⟩ : ByteArray).extract 0 ((wrap64 (2 * (mx 0 (wrap64 (1 - (wrap64 (2 - t221))))))) : Int).toNat)), true)) else (none)) else (none)) else (none)) else (none)) else (none)) else (if 0 ≤ (wrap64 (2 * (wrap64 (2 - t221)))) then (if (wrap64 (2 * (wrap64 (2 - t221)))) ≤ 10 then (some (((⟨#[97, 97, 98, 98, 99, 99, 100, 100, 101, 101]⟩ : ByteArray).extract 0 ((wrap64 (2 * (wrap64 (2 - t221)))) : Int).toNat), true)) else (none)) else (none)))) = some (r1, r2) := H
    have A4 := Aside0.mk A40
    clear A40
    replace H := Option.bind_eq_some_iff.mp H
    obtain ⟨t222, A50, H⟩ := H
    replace H : (if t222 = true then (if 0 ≤ (wrap64 (2 * (wrap64 (2 - t221)))) then (if (wrap64 (2 * (wrap64 (2 - t221)))) ≤ 8 then (if 0 ≤ (wrap64 (2 * (mx 0 (wrap64 (1 - (wrap64 (2 - t221))))))) then (if (wrap64 (2 * (mx 0 (wrap64 (1 - (wrap64 (2 - t221))))))) ≤ 2 then (if ((⟨#[97, 98, 65, 66, 99, 100, 67, 68]⟩ : ByteArray).extract 0 ((wrap64 (2 * (wrap64 (2 - t221)))) : Int).toNat).size + ((⟨#[97, 65]⟩ : ByteArray).extract 0 ((wrap64 (2 * (mx 0 (wrap64 (1 - (wrap64 (2 - t221))))))) : Int).toNat).size ≤ 9223372036854775807 then (some ((((⟨#[97, 98, 65, 66, 99, 100, 67, 68]⟩ : ByteArray).extract 0 ((wrap64 (2 * (wrap64 (2 - t221)))) : Int).toNat) ++ ((⟨#[97, 65]⟩ : ByteArray).extract 0 ((wrap64 (2 * (mx 0 (wrap64 (1 - (wrap64 (2 - t221))))))) : Int).toNat)), true)) else (none)) else (none)) else (none)) else (none)) else (none)) else (if 0 ≤ (wrap64 (2 * (wrap64 (2 - t221)))) then (if (wrap64 (2 * (wrap64 (2 - t221)))) ≤ 10 then (some (((⟨#[97, 97, 98, 98, 99, 99, 100, 100, 101, 101]⟩ : ByteArray).extract 0 ((wrap64 (2 * (wrap64 (2 - t221)))) : Int).toNat), true)) else (none)) else (none))) = some (r1, r2) := H
    have A5 := Aside0.mk A50
    clear A50
    by_cases c6 : t222 = true
    · subst c6
      have H1 : (if 0 ≤ (wrap64 (2 * (wrap64 (2 - t221)))) then (if (wrap64 (2 * (wrap64 (2 - t221)))) ≤ 8 then (if 0 ≤ (wrap64 (2 * (mx 0 (wrap64 (1 - (wrap64 (2 - t221))))))) then (if (wrap64 (2 * (mx 0 (wrap64 (1 - (wrap64 (2 - t221))))))) ≤ 2 then (if ((⟨#[97, 98, 65, 66, 99, 100, 67, 68]⟩ : ByteArray).extract 0 ((wrap64 (2 * (wrap64 (2 - t221)))) : Int).toNat).size + ((⟨#[97, 65]⟩ : ByteArray).extract 0 ((wrap64 (2 * (mx 0 (wrap64 (1 - (wrap64 (2 - t221))))))) : Int).toNat).size ≤ 9223372036854775807 then (some ((((⟨#[97, 98, 65, 66, 99, 100, 67, 68]⟩ : ByteArray).extract 0 ((wrap64 (2 * (wrap64 (2 - t221)))) : Int).toNat) ++ ((⟨#[97, 65]⟩ : ByteArray).extract 0 ((wrap64 (2 * (mx 0 (wrap64 (1 - (wrap64 (2 - t221))))))) : Int).toNat)), true)) else (none)) else (none)) else (none)) else (none)) else (none)) = some (r1, r2) := by rw [if_pos rfl] at H; exact H
      clear H
      have H := H1
      clear H1
      obtain ⟨ji7, hji7⟩ : ∃ j_ : Int, (wrap64 (2 * (wrap64 (2 - t221)))) = j_ := ⟨_, rfl⟩
      replace H : (if 0 ≤ (ji7) then (if (ji7) ≤ 8 then (if 0 ≤ (wrap64 (2 * (mx 0 (wrap64 (1 - (wrap64 (2 - t221))))))) then (if (wrap64 (2 * (mx 0 (wrap64 (1 - (wrap64 (2 - t221))))))) ≤ 2 then (if ((⟨#[97, 98, 65, 66, 99, 100, 67, 68]⟩ : ByteArray).extract 0 ((ji7) : Int).toNat).size + ((⟨#[97, 65]⟩ : ByteArray).extract 0 ((wrap64 (2 * (mx 0 (wrap64 (1 - (wrap64 (2 - t221))))))) : Int).toNat).size ≤ 9223372036854775807 then (some ((((⟨#[97, 98, 65, 66, 99, 100, 67, 68]⟩ : ByteArray).extract 0 ((ji7) : Int).toNat) ++ ((⟨#[97, 65]⟩ : ByteArray).extract 0 ((wrap64 (2 * (mx 0 (wrap64 (1 - (wrap64 (2 - t221))))))) : Int).toNat)), true)) else (none)) else (none)) else (none)) else (none)) else (none)) = some (r1, r2) := by first | (rw [hji7] at H; exact H) | (simp only [hji7] at H ⊢; exact H)
      (try rw [hji7] at A2)
      (try rw [hji7] at A4)
      (try rw [hji7] at A5)
      have hji7w : (IntKind.i64.wrap (2 * (wrap64 (2 - t221)))) = ji7 := (i64_w _).trans hji7
      by_cases c8 : 0 ≤ (ji7)
      · rw [if_pos c8] at H
        have c8b0 := eq_true c8
        have c8b1 : decide (0 ≤ (ji7)) = true := decide_eq_true c8
        clear c8
        by_cases c9 : (ji7) ≤ 8
        · rw [if_pos c9] at H
          have c9b0 := eq_true c9
          have c9b1 : decide ((ji7) ≤ 8) = true := decide_eq_true c9
          clear c9
          obtain ⟨zs10, hzs10⟩ : ∃ j_ : ByteArray, ((⟨#[97, 98, 65, 66, 99, 100, 67, 68]⟩ : ByteArray).extract 0 ((ji7) : Int).toNat) = j_ := ⟨_, rfl⟩
          replace H : (if 0 ≤ (wrap64 (2 * (mx 0 (wrap64 (1 - (wrap64 (2 - t221))))))) then (if (wrap64 (2 * (mx 0 (wrap64 (1 - (wrap64 (2 - t221))))))) ≤ 2 then (if zs10.size + ((⟨#[97, 65]⟩ : ByteArray).extract 0 ((wrap64 (2 * (mx 0 (wrap64 (1 - (wrap64 (2 - t221))))))) : Int).toNat).size ≤ 9223372036854775807 then (some ((zs10 ++ ((⟨#[97, 65]⟩ : ByteArray).extract 0 ((wrap64 (2 * (mx 0 (wrap64 (1 - (wrap64 (2 - t221))))))) : Int).toNat)), true)) else (none)) else (none)) else (none)) = some (r1, r2) := by first | (rw [hzs10] at H; exact H) | (simp only [hzs10] at H ⊢; exact H) | exact H
          (try rw [hzs10] at A2)
          (try rw [hzs10] at A4)
          (try rw [hzs10] at A5)
          obtain ⟨ji11, hji11⟩ : ∃ j_ : Int, (mx 0 (wrap64 (1 - (wrap64 (2 - t221))))) = j_ := ⟨_, rfl⟩
          replace H : (if 0 ≤ (wrap64 (2 * (ji11))) then (if (wrap64 (2 * (ji11))) ≤ 2 then (if zs10.size + ((⟨#[97, 65]⟩ : ByteArray).extract 0 ((wrap64 (2 * (ji11))) : Int).toNat).size ≤ 9223372036854775807 then (some ((zs10 ++ ((⟨#[97, 65]⟩ : ByteArray).extract 0 ((wrap64 (2 * (ji11))) : Int).toNat)), true)) else (none)) else (none)) else (none)) = some (r1, r2) := by first | (rw [hji11] at H; exact H) | (simp only [hji11] at H ⊢; exact H)
          (try rw [hji11] at A2)
          (try rw [hji11] at A4)
          (try rw [hji11] at A5)
          (try (have hji11l : 0 ≤ ji11 := by (rw [← hji11]; unfold mx; (repeat' split) <;> omega)))
          (try (have hji11m : 0 ≤ ji11 := by omega))
          have hji11_ : (if 0 < (wrap64 (1 - (wrap64 (2 - t221)))) then (wrap64 (1 - (wrap64 (2 - t221)))) else 0) = ji11 := hji11
          obtain ⟨ji12, hji12⟩ : ∃ j_ : Int, (wrap64 (2 * (ji11))) = j_ := ⟨_, rfl⟩
          replace H : (if 0 ≤ (ji12) then (if (ji12) ≤ 2 then (if zs10.size + ((⟨#[97, 65]⟩ : ByteArray).extract 0 ((ji12) : Int).toNat).size ≤ 9223372036854775807 then (some ((zs10 ++ ((⟨#[97, 65]⟩ : ByteArray).extract 0 ((ji12) : Int).toNat)), true)) else (none)) else (none)) else (none)) = some (r1, r2) := by first | (rw [hji12] at H; exact H) | (simp only [hji12] at H ⊢; exact H)
          (try rw [hji12] at A2)
          (try rw [hji12] at A4)
          (try rw [hji12] at A5)
          have hji12w : (IntKind.i64.wrap (2 * (ji11))) = ji12 := (i64_w _).trans hji12
          by_cases c13 : 0 ≤ (ji12)
          · rw [if_pos c13] at H
            have c13b0 := eq_true c13
            have c13b1 : decide (0 ≤ (ji12)) = true := decide_eq_true c13
            clear c13
            by_cases c14 : (ji12) ≤ 2
            · rw [if_pos c14] at H
              have c14b0 := eq_true c14
              have c14b1 : decide ((ji12) ≤ 2) = true := decide_eq_true c14
              clear c14
              obtain ⟨zs15, hzs15⟩ : ∃ j_ : ByteArray, ((⟨#[97, 65]⟩ : ByteArray).extract 0 ((ji12) : Int).toNat) = j_ := ⟨_, rfl⟩
              replace H : (if zs10.size + zs15.size ≤ 9223372036854775807 then (some ((zs10 ++ zs15), true)) else (none)) = some (r1, r2) := by first | (rw [hzs15] at H; exact H) | (simp only [hzs15] at H ⊢; exact H) | exact H
              (try rw [hzs15] at A2)
              (try rw [hzs15] at A4)
              (try rw [hzs15] at A5)
              by_cases c16 : zs10.size + zs15.size ≤ 9223372036854775807
              · rw [if_pos c16] at H
                have c16b0 := eq_true c16
                have c16b1 : decide (zs10.size + zs15.size ≤ 9223372036854775807) = true := decide_eq_true c16
                try have c16b2 : (9223372036854775807 < zs10.size + zs15.size) = False := eq_false (Nat.not_lt.2 c16)
                obtain ⟨zs17, hzs17⟩ : ∃ j_ : ByteArray, (zs10 ++ zs15) = j_ := ⟨_, rfl⟩
                replace H : (some (zs17, true)) = some (r1, r2) := by first | (rw [hzs17] at H; exact H) | (simp only [hzs17] at H ⊢; exact H) | exact H
                (try rw [hzs17] at A2)
                (try rw [hzs17] at A4)
                (try rw [hzs17] at A5)
                simp only [Option.some.injEq, Prod.mk.injEq] at H
                obtain ⟨rfl, rfl⟩ := H
                go_enter Try.func36, Try.ntmps36
                go_wp2_with (first | (go_at_call 27; (with_reducible refine (impl_WordValid.calls a0 true _ A2.out).mono ?_); rintro e w18 ⟨rfl, hb⟩; have n0_ := Aside0.mk (below_step (by repeat (first | (with_reducible first | exact HB.out | apply below_alloc | apply pw_below_drewN | apply below_drew1) | exact HB.out)) hb); clear HB; have HB := n0_; clear n0_; (try clear hb); (try clear hb2); (try clear hk); (try clear hi)) | (go_at_call 34; (with_reducible refine (impl_WordNumber.calls k a0 t221 _ A4.out).mono ?_); rintro e w19 ⟨rfl, hb⟩; have n0_ := Aside0.mk (below_step (by repeat (first | (with_reducible first | exact HB.out | apply below_alloc | apply pw_below_drewN | apply below_drew1) | exact HB.out)) hb); clear HB; have HB := n0_; clear n0_; (try clear hb); (try clear hb2); (try clear hk); (try clear hi)) | (go_at_call 14; (with_reducible refine (impl_WordSided.calls k a0 true _ A5.out).mono ?_); rintro e w20 ⟨rfl, hb⟩; have n0_ := Aside0.mk (below_step (by repeat (first | (with_reducible first | exact HB.out | apply below_alloc | apply pw_below_drewN | apply below_drew1) | exact HB.out)) hb); clear HB; have HB := n0_; clear n0_; (try clear hb); (try clear hb2); (try clear hk); (try clear hi)))
                repeat (go_quiet (first | (go_at_call 27; (with_reducible refine (impl_WordValid.calls a0 true _ A2.out).mono ?_); rintro e w18 ⟨rfl, hb⟩; have n0_ := Aside0.mk (below_step (by repeat (first | (with_reducible first | exact HB.out | apply below_alloc | apply pw_below_drewN | apply below_drew1) | exact HB.out)) hb); clear HB; have HB := n0_; clear n0_; (try clear hb); (try clear hb2); (try clear hk); (try clear hi)) | (go_at_call 34; (with_reducible refine (impl_WordNumber.calls k a0 t221 _ A4.out).mono ?_); rintro e w19 ⟨rfl, hb⟩; have n0_ := Aside0.mk (below_step (by repeat (first | (with_reducible first | exact HB.out | apply below_alloc | apply pw_below_drewN | apply below_drew1) | exact HB.out)) hb); clear HB; have HB := n0_; clear n0_; (try clear hb); (try clear hb2); (try clear hk); (try clear hi)) | (go_at_call 14; (with_reducible refine (impl_WordSided.calls k a0 true _ A5.out).mono ?_); rintro e w20 ⟨rfl, hb⟩; have n0_ := Aside0.mk (below_step (by repeat (first | (with_reducible first | exact HB.out | apply below_alloc | apply pw_below_drewN | apply below_drew1) | exact HB.out)) hb); clear HB; have HB := n0_; clear n0_; (try clear hb); (try clear hb2); (try clear hk); (try clear hi))); try go_wp2_with (first | (go_at_call 27; (with_reducible refine (impl_WordValid.calls a0 true _ A2.out).mono ?_); rintro e w18 ⟨rfl, hb⟩; have n0_ := Aside0.mk (below_step (by repeat (first | (with_reducible first | exact HB.out | apply below_alloc | apply pw_below_drewN | apply below_drew1) | exact HB.out)) hb); clear HB; have HB := n0_; clear n0_; (try clear hb); (try clear hb2); (try clear hk); (try clear hi)) | (go_at_call 34; (with_reducible refine (impl_WordNumber.calls k a0 t221 _ A4.out).mono ?_); rintro e w19 ⟨rfl, hb⟩; have n0_ := Aside0.mk (below_step (by repeat (first | (with_reducible first | exact HB.out | apply below_alloc | apply pw_below_drewN | apply below_drew1) | exact HB.out)) hb); clear HB; have HB := n0_; clear n0_; (try clear hb); (try clear hb2); (try clear hk); (try clear hi)) | (go_at_call 14; (with_reducible refine (impl_WordSided.calls k a0 true _ A5.out).mono ?_); rintro e w20 ⟨rfl, hb⟩; have n0_ := Aside0.mk (below_step (by repeat (first | (with_reducible first | exact HB.out | apply below_alloc | apply pw_below_drewN | apply below_drew1) | exact HB.out)) hb); clear HB; have HB := n0_; clear n0_; (try clear hb); (try clear hb2); (try clear hk); (try clear hi))))
                go_ret2
                exact ⟨by first | rfl | (simp [errW_none, errW_some] <;> rfl) | (simp only [← hji7, ← hji11, ← hji12]; first | rfl | (simp [errW_none, errW_some] <;> rfl)) | (simp [*, errW_none, errW_some] <;> rfl), by repeat (first | (with_reducible first | exact HB.out | apply below_alloc | apply pw_below_drewN | apply below_drew1) | exact HB.out)⟩
              · rw [if_neg c16] at H
                exact absurd H (by simp)
            · rw [if_neg c14] at H
              exact absurd H (by simp)
          · rw [if_neg c13] at H
            exact absurd H (by simp)
        · rw [if_neg c9] at H
          exact absurd H (by simp)
      · rw [if_neg c8] at H
        exact absurd H (by simp)
    · replace c6 := Bool.eq_false_iff.mpr c6
      subst c6
      have H1 : (if 0 ≤ (wrap64 (2 * (wrap64 (2 - t221)))) then (if (wrap64 (2 * (wrap64 (2 - t221)))) ≤ 10 then (some (((⟨#[97, 97, 98, 98, 99, 99, 100, 100, 101, 101]⟩ : ByteArray).extract 0 ((wrap64 (2 * (wrap64 (2 - t221)))) : Int).toNat), true)) else (none)) else (none)) = some (r1, r2) := by rw [if_neg (show ¬ (false = true) by decide)] at H; exact H
      clear H
      have H := H1
      clear H1
      obtain ⟨ji21, hji21⟩ : ∃ j_ : Int, (wrap64 (2 * (wrap64 (2 - t221)))) = j_ := ⟨_, rfl⟩
      replace H : (if 0 ≤ (ji21) then (if (ji21) ≤ 10 then (some (((⟨#[97, 97, 98, 98, 99, 99, 100, 100, 101, 101]⟩ : ByteArray).extract 0 ((ji21) : Int).toNat), true)) else (none)) else (none)) = some (r1, r2) := by first | (rw [hji21] at H; exact H) | (simp only [hji21] at H ⊢; exact H)
      (try rw [hji21] at A2)
      (try rw [hji21] at A4)
      (try rw [hji21] at A5)
      have hji21w : (IntKind.i64.wrap (2 * (wrap64 (2 - t221)))) = ji21 := (i64_w _).trans hji21
      by_cases c22 : 0 ≤ (ji21)
      · rw [if_pos c22] at H
        have c22b0 := eq_true c22
        have c22b1 : decide (0 ≤ (ji21)) = true := decide_eq_true c22
        clear c22
        by_cases c23 : (ji21) ≤ 10
        · rw [if_pos c23] at H
          have c23b0 := eq_true c23
          have c23b1 : decide ((ji21) ≤ 10) = true := decide_eq_true c23
          clear c23
          obtain ⟨zs24, hzs24⟩ : ∃ j_ : ByteArray, ((⟨#[97, 97, 98, 98, 99, 99, 100, 100, 101, 101]⟩ : ByteArray).extract 0 ((ji21) : Int).toNat) = j_ := ⟨_, rfl⟩
          replace H : (some (zs24, true)) = some (r1, r2) := by first | (rw [hzs24] at H; exact H) | (simp only [hzs24] at H ⊢; exact H) | exact H
          (try rw [hzs24] at A2)
          (try rw [hzs24] at A4)
          (try rw [hzs24] at A5)
          simp only [Option.some.injEq, Prod.mk.injEq] at H
          obtain ⟨rfl, rfl⟩ := H
          go_enter Try.func36, Try.ntmps36
          go_wp2_with (first | (go_at_call 27; (with_reducible refine (impl_WordValid.calls a0 true _ A2.out).mono ?_); rintro e w25 ⟨rfl, hb⟩; have n0_ := Aside0.mk (below_step (by repeat (first | (with_reducible first | exact HB.out | apply below_alloc | apply pw_below_drewN | apply below_drew1) | exact HB.out)) hb); clear HB; have HB := n0_; clear n0_; (try clear hb); (try clear hb2); (try clear hk); (try clear hi)) | (go_at_call 34; (with_reducible refine (impl_WordNumber.calls k a0 t221 _ A4.out).mono ?_); rintro e w26 ⟨rfl, hb⟩; have n0_ := Aside0.mk (below_step (by repeat (first | (with_reducible first | exact HB.out | apply below_alloc | apply pw_below_drewN | apply below_drew1) | exact HB.out)) hb); clear HB; have HB := n0_; clear n0_; (try clear hb); (try clear hb2); (try clear hk); (try clear hi)) | (go_at_call 14; (with_reducible refine (impl_WordSided.calls k a0 false _ A5.out).mono ?_); rintro e w27 ⟨rfl, hb⟩; have n0_ := Aside0.mk (below_step (by repeat (first | (with_reducible first | exact HB.out | apply below_alloc | apply pw_below_drewN | apply below_drew1) | exact HB.out)) hb); clear HB; have HB := n0_; clear n0_; (try clear hb); (try clear hb2); (try clear hk); (try clear hi)))
          repeat (go_quiet (first | (go_at_call 27; (with_reducible refine (impl_WordValid.calls a0 true _ A2.out).mono ?_); rintro e w25 ⟨rfl, hb⟩; have n0_ := Aside0.mk (below_step (by repeat (first | (with_reducible first | exact HB.out | apply below_alloc | apply pw_below_drewN | apply below_drew1) | exact HB.out)) hb); clear HB; have HB := n0_; clear n0_; (try clear hb); (try clear hb2); (try clear hk); (try clear hi)) | (go_at_call 34; (with_reducible refine (impl_WordNumber.calls k a0 t221 _ A4.out).mono ?_); rintro e w26 ⟨rfl, hb⟩; have n0_ := Aside0.mk (below_step (by repeat (first | (with_reducible first | exact HB.out | apply below_alloc | apply pw_below_drewN | apply below_drew1) | exact HB.out)) hb); clear HB; have HB := n0_; clear n0_; (try clear hb); (try clear hb2); (try clear hk); (try clear hi)) | (go_at_call 14; (with_reducible refine (impl_WordSided.calls k a0 false _ A5.out).mono ?_); rintro e w27 ⟨rfl, hb⟩; have n0_ := Aside0.mk (below_step (by repeat (first | (with_reducible first | exact HB.out | apply below_alloc | apply pw_below_drewN | apply below_drew1) | exact HB.out)) hb); clear HB; have HB := n0_; clear n0_; (try clear hb); (try clear hb2); (try clear hk); (try clear hi))); try go_wp2_with (first | (go_at_call 27; (with_reducible refine (impl_WordValid.calls a0 true _ A2.out).mono ?_); rintro e w25 ⟨rfl, hb⟩; have n0_ := Aside0.mk (below_step (by repeat (first | (with_reducible first | exact HB.out | apply below_alloc | apply pw_below_drewN | apply below_drew1) | exact HB.out)) hb); clear HB; have HB := n0_; clear n0_; (try clear hb); (try clear hb2); (try clear hk); (try clear hi)) | (go_at_call 34; (with_reducible refine (impl_WordNumber.calls k a0 t221 _ A4.out).mono ?_); rintro e w26 ⟨rfl, hb⟩; have n0_ := Aside0.mk (below_step (by repeat (first | (with_reducible first | exact HB.out | apply below_alloc | apply pw_below_drewN | apply below_drew1) | exact HB.out)) hb); clear HB; have HB := n0_; clear n0_; (try clear hb); (try clear hb2); (try clear hk); (try clear hi)) | (go_at_call 14; (with_reducible refine (impl_WordSided.calls k a0 false _ A5.out).mono ?_); rintro e w27 ⟨rfl, hb⟩; have n0_ := Aside0.mk (below_step (by repeat (first | (with_reducible first | exact HB.out | apply below_alloc | apply pw_below_drewN | apply below_drew1) | exact HB.out)) hb); clear HB; have HB := n0_; clear n0_; (try clear hb); (try clear hb2); (try clear hk); (try clear hi))))
          go_ret2
          exact ⟨by first | rfl | (simp [errW_none, errW_some] <;> rfl) | (simp only [← hji21]; first | rfl | (simp [errW_none, errW_some] <;> rfl)) | (simp [*, errW_none, errW_some] <;> rfl), by repeat (first | (with_reducible first | exact HB.out | apply below_alloc | apply pw_below_drewN | apply below_drew1) | exact HB.out)⟩
        · rw [if_neg c23] at H
          exact absurd H (by simp)
      · rw [if_neg c22] at H
        exact absurd H (by simp)
  · replace c3 := Bool.eq_false_iff.mpr c3
    subst c3
    have H1 : (some ((⟨#[]⟩ : ByteArray), false)) = some (r1, r2) := by rw [if_neg (show ¬ (false = true) by decide)] at H; exact H
    clear H
    have H := H1
    clear H1
    simp only [Option.some.injEq, Prod.mk.injEq] at H
    obtain ⟨rfl, rfl⟩ := H
    go_enter Try.func36, Try.ntmps36
    go_wp2_with (first | (go_at_call 27; (with_reducible refine (impl_WordValid.calls a0 false _ A2.out).mono ?_); rintro e w28 ⟨rfl, hb⟩; have n0_ := Aside0.mk (below_step (by repeat (first | (with_reducible first | exact HB.out | apply below_alloc | apply pw_below_drewN | apply below_drew1) | exact HB.out)) hb); clear HB; have HB := n0_; clear n0_; (try clear hb); (try clear hb2); (try clear hk); (try clear hi)))
    repeat (go_quiet (first | (go_at_call 27; (with_reducible refine (impl_WordValid.calls a0 false _ A2.out).mono ?_); rintro e w28 ⟨rfl, hb⟩; have n0_ := Aside0.mk (below_step (by repeat (first | (with_reducible first | exact HB.out | apply below_alloc | apply pw_below_drewN | apply below_drew1) | exact HB.out)) hb); clear HB; have HB := n0_; clear n0_; (try clear hb); (try clear hb2); (try clear hk); (try clear hi))); try go_wp2_with (first | (go_at_call 27; (with_reducible refine (impl_WordValid.calls a0 false _ A2.out).mono ?_); rintro e w28 ⟨rfl, hb⟩; have n0_ := Aside0.mk (below_step (by repeat (first | (with_reducible first | exact HB.out | apply below_alloc | apply pw_below_drewN | apply below_drew1) | exact HB.out)) hb); clear HB; have HB := n0_; clear n0_; (try clear hb); (try clear hb2); (try clear hk); (try clear hi))))
    go_ret2
    exact ⟨by first | rfl | (simp [errW_none, errW_some] <;> rfl) | (simp [*, errW_none, errW_some] <;> rfl), by repeat (first | (with_reducible first | exact HB.out | apply below_alloc | apply pw_below_drewN | apply below_drew1) | exact HB.out)⟩

/-! ### laws_FnExactWordNormal: function 11 -/
def laws_FnExactWordNormal.f (k : Nat) (a0 : ByteArray) : Option (Bool) := if (a0.size : Int) > 1048576 then (some true) else ((spec_WordNormal.f k a0).bind fun bt223 => ((impl_WordNormal.f k a0).bind fun bt225 => (if bt225.1.toList = bt223.1.toList then (if (bt225.2 != bt223.2) = true then (some false) else (some true)) else (some false))))
theorem laws_FnExactWordNormal.mono : ∀ a0 k, LeO (laws_FnExactWordNormal.f k a0) (laws_FnExactWordNormal.f (k + 1) a0) := by
  intro a0 k
  unfold laws_FnExactWordNormal.f
  repeat' first
      | (with_reducible exact impl_WordNormal.mono _ _)
      | (with_reducible exact spec_WordNormal.mono _ _)
      | (with_reducible exact LeO.refl _)
      | (with_reducible exact LeO.none _)
      | (with_reducible refine LeO.ite ?_ ?_)
      | (with_reducible refine LeO.bind ?_ (fun _ => ?_))
      | exact impl_WordNormal.mono _ _
      | exact spec_WordNormal.mono _ _
      | exact LeO.none _
      | refine LeO.ite ?_ ?_
      | refine LeO.bind ?_ (fun _ => ?_)
set_option maxHeartbeats 8000000 in
set_option maxRecDepth 100000 in
theorem laws_FnExactWordNormal.calls (k : Nat) (a0 : ByteArray) (r : Bool) (w : World) (h : laws_FnExactWordNormal.f k a0 = some r) :
    Calls Try.prog 11 #[.string a0] w fun e w' => e = .returned (.bool r) ∧ Below w.heap.size w w' := by
  have HB := Aside0.mk (Below.refl w.heap.size w)
  have H : (if (a0.size : Int) > 1048576 then (some true) else ((spec_WordNormal.f k a0).bind fun bt223 => ((impl_WordNormal.f k a0).bind fun bt225 => (if bt225.1.toList = bt223.1.toList then (if (bt225.2 != bt223.2) = true then (some false) else (some true)) else (some false))))) = some r := h
  clear h
  by_cases c2 : (a0.size : Int) > 1048576
  · rw [if_pos c2] at H
    have c2b0 : decide (1048576 < (a0.size : Int)) = true := decide_eq_true c2
    have c2b1 : decide (1048576 < a0.size) = true := decide_eq_true (by omega)
    clear c2
    obtain rfl := Option.some.inj H
    go_enter Try.func11, Try.ntmps11
    go_wp2
    go_ret
    exact ⟨by first | rfl | (simp [errW_none, errW_some] <;> rfl) | (simp [*, errW_none, errW_some] <;> rfl), by repeat (first | (with_reducible first | exact HB.out | apply below_alloc | apply pw_below_drewN | apply below_drew1) | exact HB.out)⟩
  · rw [if_neg c2] at H
    have c2b0 : decide (1048576 < (a0.size : Int)) = false := decide_eq_false c2
    have c2b1 : decide (1048576 < a0.size) = false := decide_eq_false (by omega)
    clear c2
    replace H := Option.bind_eq_some_iff.mp H
    obtain ⟨⟨t223, t224⟩, A30, H⟩ := H
    replace H : ((impl_WordNormal.f k a0).bind fun bt225 => (if bt225.1.toList = t223.toList then (if (bt225.2 != t224) = true then (some false) else (some true)) else (some false))) = some r := H
    have A3 := Aside0.mk A30
    clear A30
    replace H := Option.bind_eq_some_iff.mp H
    obtain ⟨⟨t225, t226⟩, A40, H⟩ := H
    replace H : (if t225.toList = t223.toList then (if (t226 != t224) = true then (some false) else (some true)) else (some false)) = some r := H
    have A4 := Aside0.mk A40
    clear A40
    by_cases c5 : t225.toList = t223.toList
    · rw [if_pos c5] at H
      have c5b0 : (t225.toList == t223.toList) = true := beq_iff_eq.mpr c5
      have c5b1 : (t225.toList != t223.toList) = false := bne_eq_false_iff_eq.mpr c5
      clear c5
      by_cases c6 : (t226 != t224) = true
      · rw [if_pos c6] at H
        have c6b0 : (t226 != t224) = true := c6
        (try (have c6b1 : decide (t226 = t224) = false := by simpa using c6))
        (try (have c6b2 : (t226 == t224) = false := by simpa using c6))
        (try (have c6b3 : ¬ (t226 = t224) := by simpa using c6))
        clear c6
        obtain rfl := Option.some.inj H
        go_enter Try.func11, Try.ntmps11
        go_wp2_with (first | ((with_reducible refine gate_callee (f := 35) rfl ?_); refine goesL_ (some 12) rfl rfl Try.func35 (by kernel_rfl) rfl #[.string a0] rfl (by (try simp only [List.map_toArray, List.map_cons, List.map_nil]); first | done | rfl | (simp only [List.length_drop, List.length_take]; rfl)) ?_; (with_reducible refine (spec_WordNormal.calls k a0 t223 t224 _ A3.out).mono ?_); rintro e w7 ⟨rfl, hb⟩; refine ⟨_, rfl, ?_⟩; have n0_ := Aside0.mk (below_step (by repeat (first | (with_reducible first | exact HB.out | apply below_alloc | apply pw_below_drewN | apply below_drew1) | exact HB.out)) hb); clear HB; have HB := n0_; clear n0_; (try clear hb); (try clear hb2); (try clear hk); (try clear hi)) | ((with_reducible refine gate_callee (f := 36) rfl ?_); refine goesL_ (some 17) rfl rfl Try.func36 (by kernel_rfl) rfl #[.string a0] rfl (by (try simp only [List.map_toArray, List.map_cons, List.map_nil]); first | done | rfl | (simp only [List.length_drop, List.length_take]; rfl)) ?_; (with_reducible refine (impl_WordNormal.calls k a0 t225 t226 _ A4.out).mono ?_); rintro e w8 ⟨rfl, hb⟩; refine ⟨_, rfl, ?_⟩; have n0_ := Aside0.mk (below_step (by repeat (first | (with_reducible first | exact HB.out | apply below_alloc | apply pw_below_drewN | apply below_drew1) | exact HB.out)) hb); clear HB; have HB := n0_; clear n0_; (try clear hb); (try clear hb2); (try clear hk); (try clear hi)))
        go_ret
        exact ⟨by first | rfl | (simp [errW_none, errW_some] <;> rfl) | (simp [*, errW_none, errW_some] <;> rfl), by repeat (first | (with_reducible first | exact HB.out | apply below_alloc | apply pw_below_drewN | apply below_drew1) | exact HB.out)⟩
      · rw [if_neg c6] at H
        have c6b0 : (t226 != t224) = false := by simpa using c6
        (try (have c6b1 : decide (t226 = t224) = true := by simpa using c6))
        (try (have c6b2 : (t226 == t224) = true := by simpa using c6))
        clear c6
        obtain rfl := Option.some.inj H
        go_enter Try.func11, Try.ntmps11
        go_wp2_with (first | ((with_reducible refine gate_callee (f := 35) rfl ?_); refine goesL_ (some 12) rfl rfl Try.func35 (by kernel_rfl) rfl #[.string a0] rfl (by (try simp only [List.map_toArray, List.map_cons, List.map_nil]); first | done | rfl | (simp only [List.length_drop, List.length_take]; rfl)) ?_; (with_reducible refine (spec_WordNormal.calls k a0 t223 t224 _ A3.out).mono ?_); rintro e w9 ⟨rfl, hb⟩; refine ⟨_, rfl, ?_⟩; have n0_ := Aside0.mk (below_step (by repeat (first | (with_reducible first | exact HB.out | apply below_alloc | apply pw_below_drewN | apply below_drew1) | exact HB.out)) hb); clear HB; have HB := n0_; clear n0_; (try clear hb); (try clear hb2); (try clear hk); (try clear hi)) | ((with_reducible refine gate_callee (f := 36) rfl ?_); refine goesL_ (some 17) rfl rfl Try.func36 (by kernel_rfl) rfl #[.string a0] rfl (by (try simp only [List.map_toArray, List.map_cons, List.map_nil]); first | done | rfl | (simp only [List.length_drop, List.length_take]; rfl)) ?_; (with_reducible refine (impl_WordNormal.calls k a0 t225 t226 _ A4.out).mono ?_); rintro e w10 ⟨rfl, hb⟩; refine ⟨_, rfl, ?_⟩; have n0_ := Aside0.mk (below_step (by repeat (first | (with_reducible first | exact HB.out | apply below_alloc | apply pw_below_drewN | apply below_drew1) | exact HB.out)) hb); clear HB; have HB := n0_; clear n0_; (try clear hb); (try clear hb2); (try clear hk); (try clear hi)))
        go_ret
        exact ⟨by first | rfl | (simp [errW_none, errW_some] <;> rfl) | (simp [*, errW_none, errW_some] <;> rfl), by repeat (first | (with_reducible first | exact HB.out | apply below_alloc | apply pw_below_drewN | apply below_drew1) | exact HB.out)⟩
    · rw [if_neg c5] at H
      have c5b0 : (t225.toList == t223.toList) = false := beq_eq_false_iff_ne.mpr c5
      have c5b1 : (t225.toList != t223.toList) = true := bne_iff_ne.mpr c5
      obtain rfl := Option.some.inj H
      go_enter Try.func11, Try.ntmps11
      go_wp2_with (first | ((with_reducible refine gate_callee (f := 35) rfl ?_); refine goesL_ (some 12) rfl rfl Try.func35 (by kernel_rfl) rfl #[.string a0] rfl (by (try simp only [List.map_toArray, List.map_cons, List.map_nil]); first | done | rfl | (simp only [List.length_drop, List.length_take]; rfl)) ?_; (with_reducible refine (spec_WordNormal.calls k a0 t223 t224 _ A3.out).mono ?_); rintro e w11 ⟨rfl, hb⟩; refine ⟨_, rfl, ?_⟩; have n0_ := Aside0.mk (below_step (by repeat (first | (with_reducible first | exact HB.out | apply below_alloc | apply pw_below_drewN | apply below_drew1) | exact HB.out)) hb); clear HB; have HB := n0_; clear n0_; (try clear hb); (try clear hb2); (try clear hk); (try clear hi)) | ((with_reducible refine gate_callee (f := 36) rfl ?_); refine goesL_ (some 17) rfl rfl Try.func36 (by kernel_rfl) rfl #[.string a0] rfl (by (try simp only [List.map_toArray, List.map_cons, List.map_nil]); first | done | rfl | (simp only [List.length_drop, List.length_take]; rfl)) ?_; (with_reducible refine (impl_WordNormal.calls k a0 t225 t226 _ A4.out).mono ?_); rintro e w12 ⟨rfl, hb⟩; refine ⟨_, rfl, ?_⟩; have n0_ := Aside0.mk (below_step (by repeat (first | (with_reducible first | exact HB.out | apply below_alloc | apply pw_below_drewN | apply below_drew1) | exact HB.out)) hb); clear HB; have HB := n0_; clear n0_; (try clear hb); (try clear hb2); (try clear hk); (try clear hi)))
      go_ret
      exact ⟨by first | rfl | (simp [errW_none, errW_some] <;> rfl) | (simp [*, errW_none, errW_some] <;> rfl), by repeat (first | (with_reducible first | exact HB.out | apply below_alloc | apply pw_below_drewN | apply below_drew1) | exact HB.out)⟩

/-- THE ONE PURE STATEMENT of laws_FnExactWordNormal: yours. -/
def laws_FnExactWordNormal.Pure : Prop := ∀ (a0 : ByteArray), a0.size ≤ 140737488351232 → ∃ k, laws_FnExactWordNormal.f k a0 = some true
theorem laws_FnExactWordNormal.walk (P : laws_FnExactWordNormal.Pure) (a0 : ByteArray) (w : World) (w0 : a0.size ≤ 140737488351232) :
    Calls Try.prog 11 #[.string a0] w fun e w' => e = .returned (.bool true) ∧ Below w.heap.size w w' := by
  obtain ⟨k, h⟩ := P a0 w0
  refine (laws_FnExactWordNormal.calls k a0 true w h).mono ?_
  rintro e w' ⟨rfl, hd⟩
  exact ⟨rfl, hd⟩

end Go.Proofs.Ytdbglmnialieoaa.PFnExactWordNormal
