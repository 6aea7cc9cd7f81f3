-- Made by a program of this session (wip/tools) out of the loaded program; not trusted: Lean checks it.
import Derived.Test.YtpfnchjbbagmdaaDoorPFnJoinHandlex0
import Derived.Test.YtpfnchjbbagmdaaDoorPFnJoinHandlex1
import Derived.Test.YtpfnchjbbagmdaaDoorPFnJoinHandlex4
import Derived.Test.YtpfnchjbbagmdaaDoorPFnJoinHandlex5
import Derived.Test.YtpfnchjbbagmdaaDoorPFnJoinHandlex6
namespace Go.Proofs.YtpfnchjbbagmdaaDoor.PFnJoinHandle
open Go.RowKit Go.Proofs.YtpfnchjbbagmdaaDoorW.PrintWords Go.Proofs.YtpfnchjbbagmdaaDoorW.PrintLast Go.Proofs.YtpfnchjbbagmdaaDoorW.PrintMore
attribute [local go_sem] max2_int min2_int max_two min_two max_three min_three max_four min_four   -- for this text's walks alone
set_option linter.unusedVariables false
set_option linter.unusedSimpArgs false

/-! ### impl_WordNormal: function 27 -/
def impl_WordNormal.f (k : Nat) (a0 : ByteArray) : Option (ByteArray × Bool) := (impl_WordValid.f a0).bind fun t254 => (if t254 = true then ((impl_WordNumber.f k a0).bind fun t255 => ((impl_WordSided.f k a0).bind fun t256 => (if t256 = true then (if 0 ≤ (wrap64 (2 * (wrap64 (2 - t255)))) then (if (wrap64 (2 * (wrap64 (2 - t255)))) ≤ 8 then (if 0 ≤ (wrap64 (2 * (mx 0 (wrap64 (1 - (wrap64 (2 - t255))))))) then (if (wrap64 (2 * (mx 0 (wrap64 (1 - (wrap64 (2 - t255))))))) ≤ 2 then (if ((⟨#[97, 98, 65, 66, 99, 100, 67, 68]⟩ : ByteArray).extract 0 ((wrap64 (2 * (wrap64 (2 - t255)))) : Int).toNat).size + ((⟨#[97, 65]⟩ : ByteArray).extract 0 ((wrap64 (2 * (mx 0 (wrap64 (1 - (wrap64 (2 - t255))))))) : Int).toNat).size ≤ 9223372036854775807 then (some ((((⟨#[97, 98, 65, 66, 99, 100, 67, 68]⟩ : ByteArray).extract 0 ((wrap64 (2 * (wrap64 (2 - t255)))) : Int).toNat) ++ ((⟨#[97, 65]⟩ : ByteArray).extract 0 ((wrap64 (2 * (mx 0 (wrap64 (1 - (wrap64 (2 - t255))))))) : Int).toNat)), true)) else (none)) else (none)) else (none)) else (none)) else (none)) else (if 0 ≤ (wrap64 (2 * (wrap64 (2 - t255)))) then (if (wrap64 (2 * (wrap64 (2 - t255)))) ≤ 10 then (some (((⟨#[97, 97, 98, 98, 99, 99, 100, 100, 101, 101]⟩ : ByteArray).extract 0 ((wrap64 (2 * (wrap64 (2 - t255)))) : Int).toNat), true)) else (none)) else (none))))) else (some ((⟨#[]⟩ : ByteArray), false)))
set_option maxHeartbeats 8000000 in
set_option maxRecDepth 100000 in
theorem impl_WordNormal.calls (k : Nat) (a0 : ByteArray) (r1 : ByteArray) (r2 : Bool) (w : World) (h : impl_WordNormal.f k a0 = some (r1, r2)) :
    Calls Tryd.prog 27 #[.string a0] w fun e w' => e = .returned (.tuple #[.string r1, .bool r2]) ∧ Below w.heap.size w w' := by
 have HB := Aside0.mk (Below.refl w.heap.size w)
 have H : ((impl_WordValid.f a0).bind fun t254 => (if t254 = true then ((impl_WordNumber.f k a0).bind fun t255 => ((impl_WordSided.f k a0).bind fun t256 => (if t256 = true then (if 0 ≤ (wrap64 (2 * (wrap64 (2 - t255)))) then (if (wrap64 (2 * (wrap64 (2 - t255)))) ≤ 8 then (if 0 ≤ (wrap64 (2 * (mx 0 (wrap64 (1 - (wrap64 (2 - t255))))))) then (if (wrap64 (2 * (mx 0 (wrap64 (1 - (wrap64 (2 - t255))))))) ≤ 2 then (if ((⟨#[97, 98, 65, 66, 99, 100, 67, 68]⟩ : ByteArray).extract 0 ((wrap64 (2 * (wrap64 (2 - t255)))) : Int).toNat).size + ((⟨#[97, 65]⟩ : ByteArray).extract 0 ((wrap64 (2 * (mx 0 (wrap64 (1 - (wrap64 (2 - t255))))))) : Int).toNat).size ≤ 9223372036854775807 then (some ((((⟨#[97, 98, 65, 66, 99, 100, 67, 68]⟩ : ByteArray).extract 0 ((wrap64 (2 * (wrap64 (2 - t255)))) : Int).toNat) ++ ((⟨#[97, 65]⟩ : ByteArray).extract 0 ((wrap64 (2 * (mx 0 (wrap64 (1 - (wrap64 (2 - t255))))))) : Int).toNat)), true)) else (none)) else (none)) else (none)) else (none)) else (none)) else (if 0 ≤ (wrap64 (2 * (wrap64 (2 - t255)))) then (if (wrap64 (2 * (wrap64 (2 - t255)))) ≤ 10 then (some (((⟨#[97, 97, 98, 98, 99, 99, 100, 100, 101, 101]⟩ : ByteArray).extract 0 ((wrap64 (2 * (wrap64 (2 - t255)))) : Int).toNat), true)) else (none)) else (none))))) else (some ((⟨#[]⟩ : ByteArray), false)))) = some (r1, r2) := h
 clear h
 replace H := Option.bind_eq_some_iff.mp H
 obtain ⟨t254, A20, H⟩ := H
 replace H : (if t254 = true then ((impl_WordNumber.f k a0).bind fun t255 => ((impl_WordSided.f k a0).bind fun t256 => (if t256 = true then (if 0 ≤ (wrap64 (2 * (wrap64 (2 - t255)))) then (if (wrap64 (2 * (wrap64 (2 - t255)))) ≤ 8 then (if 0 ≤ (wrap64 (2 * (mx 0 (wrap64 (1 - (wrap64 (2 - t255))))))) then (if (wrap64 (2 * (mx 0 (wrap64 (1 - (wrap64 (2 - t255))))))) ≤ 2 then (if ((⟨#[97, 98, 65, 66, 99, 100, 67, 68]⟩ : ByteArray).extract 0 ((wrap64 (2 * (wrap64 (2 - t255)))) : Int).toNat).size + ((⟨#[97, 65]⟩ : ByteArray).extract 0 ((wrap64 (2 * (mx 0 (wrap64 (1 - (wrap64 (2 - t255))))))) : Int).toNat).size ≤ 9223372036854775807 then (some ((((⟨#[97, 98, 65, 66, 99, 100, 67, 68]⟩ : ByteArray).extract 0 ((wrap64 (2 * (wrap64 (2 - t255)))) : Int).toNat) ++ ((⟨#[97, 65]⟩ : ByteArray).extract 0 ((wrap64 (2 * (mx 0 (wrap64 (1 - (wrap64 (2 - t255))))))) : Int).toNat)), true)) else (none)) else (none)) else (none)) else (none)) else (none)) else (if 0 ≤ (wrap64 (2 * (wrap64 (2 - t255)))) then (if (wrap64 (2 * (wrap64 (2 - t255)))) ≤ 10 then (some (((⟨#[97, 97, 98, 98, 99, 99, 100, 100, 101, 101]⟩ : ByteArray).extract 0 ((wrap64 (2 * (wrap64 (2 - t255)))) : Int).toNat), true)) else (none)) else (none))))) else (some ((⟨#[]⟩ : ByteArray), false))) = some (r1, r2) := H
 have A2 := Aside0.mk A20
 clear A20
 by_cases c3 : t254 = true
 ·subst c3
  have H1 : ((impl_WordNumber.f k a0).bind fun t255 => ((impl_WordSided.f k a0).bind fun t256 => (if t256 = true then (if 0 ≤ (wrap64 (2 * (wrap64 (2 - t255)))) then (if (wrap64 (2 * (wrap64 (2 - t255)))) ≤ 8 then (if 0 ≤ (wrap64 (2 * (mx 0 (wrap64 (1 - (wrap64 (2 - t255))))))) then (if (wrap64 (2 * (mx 0 (wrap64 (1 - (wrap64 (2 - t255))))))) ≤ 2 then (if ((⟨#[97, 98, 65, 66, 99, 100, 67, 68]⟩ : ByteArray).extract 0 ((wrap64 (2 * (wrap64 (2 - t255)))) : Int).toNat).size + ((⟨#[97, 65]⟩ : ByteArray).extract 0 ((wrap64 (2 * (mx 0 (wrap64 (1 - (wrap64 (2 - t255))))))) : Int).toNat).size ≤ 9223372036854775807 then (some ((((⟨#[97, 98, 65, 66, 99, 100, 67, 68]⟩ : ByteArray).extract 0 ((wrap64 (2 * (wrap64 (2 - t255)))) : Int).toNat) ++ ((⟨#[97, 65]⟩ : ByteArray).extract 0 ((wrap64 (2 * (mx 0 (wrap64 (1 - (wrap64 (2 - t255))))))) : Int).toNat)), true)) else (none)) else (none)) else (none)) else (none)) else (none)) else (if 0 ≤ (wrap64 (2 * (wrap64 (2 - t255)))) then (if (wrap64 (2 * (wrap64 (2 - t255)))) ≤ 10 then (some (((⟨#[97, 97, 98, 98, 99, 99, 100, 100, 101, 101]⟩ : ByteArray).extract 0 ((wrap64 (2 * (wrap64 (2 - t255)))) : Int).toNat), true)) else (none)) else (none))))) = some (r1, r2) := by rw [if_pos rfl] at H; exact H
  clear H
  have H := H1
  clear H1
  replace H := Option.bind_eq_some_iff.mp H
  obtain ⟨t255, A40, H⟩ := H
  replace H : ((impl_WordSided.f k a0).bind fun t256 => (if t256 = true then (if 0 ≤ (wrap64 (2 * (wrap64 (2 - t255)))) then (if (wrap64 (2 * (wrap64 (2 - t255)))) ≤ 8 then (if 0 ≤ (wrap64 (2 * (mx 0 (wrap64 (1 - (wrap64 (2 - t255))))))) then (if (wrap64 (2 * (mx 0 (wrap64 (1 - (wrap64 (2 - t255))))))) ≤ 2 then (if ((⟨#[97, 98, 65, 66, 99, 100, 67, 68]⟩ : ByteArray).extract 0 ((wrap64 (2 * (wrap64 (2 - t255)))) : Int).toNat).size + ((⟨#[97, 65]⟩ : ByteArray).extract 0 ((wrap64 (2 * (mx 0 (wrap64 (1 - (wrap64 (2 - t255))))))) : Int).toNat).size ≤ 9223372036854775807 then (some ((((⟨#[97, 98, 65, 66, 99, 100, 67, 68]⟩ : ByteArray).extract 0 ((wrap64 (2 * (wrap64 (2 - t255)))) : Int).toNat) ++ ((⟨#[97, 65]⟩ : ByteArray).extract 0 ((wrap64 (2 * (mx 0 (wrap64 (1 - (wrap64 (2 - t255))))))) : Int).toNat)), true)) else (none)) else (none)) else (none)) else (none)) else (none)) else (if 0 ≤ (wrap64 (2 * (wrap64 (2 - t255)))) then (if (wrap64 (2 * (wrap64 (2 - t255)))) ≤ 10 then (some (((⟨#[97, 97, 98, 98, 99, 99, 100, 100, 101, 101]⟩ : ByteArray).extract 0 ((wrap64 (2 * (wrap64 (2 - t255)))) : Int).toNat), true)) else (none)) else (none)))) = some (r1, r2) := H
  have A4 := Aside0.mk A40
  clear A40
  replace H := Option.bind_eq_some_iff.mp H
  obtain ⟨t256, A50, H⟩ := H
  replace H : (if t256 = true then (if 0 ≤ (wrap64 (2 * (wrap64 (2 - t255)))) then (if (wrap64 (2 * (wrap64 (2 - t255)))) ≤ 8 then (if 0 ≤ (wrap64 (2 * (mx 0 (wrap64 (1 - (wrap64 (2 - t255))))))) then (if (wrap64 (2 * (mx 0 (wrap64 (1 - (wrap64 (2 - t255))))))) ≤ 2 then (if ((⟨#[97, 98, 65, 66, 99, 100, 67, 68]⟩ : ByteArray).extract 0 ((wrap64 (2 * (wrap64 (2 - t255)))) : Int).toNat).size + ((⟨#[97, 65]⟩ : ByteArray).extract 0 ((wrap64 (2 * (mx 0 (wrap64 (1 - (wrap64 (2 - t255))))))) : Int).toNat).size ≤ 9223372036854775807 then (some ((((⟨#[97, 98, 65, 66, 99, 100, 67, 68]⟩ : ByteArray).extract 0 ((wrap64 (2 * (wrap64 (2 - t255)))) : Int).toNat) ++ ((⟨#[97, 65]⟩ : ByteArray).extract 0 ((wrap64 (2 * (mx 0 (wrap64 (1 - (wrap64 (2 - t255))))))) : Int).toNat)), true)) else (none)) else (none)) else (none)) else (none)) else (none)) else (if 0 ≤ (wrap64 (2 * (wrap64 (2 - t255)))) then (if (wrap64 (2 * (wrap64 (2 - t255)))) ≤ 10 then (some (((⟨#[97, 97, 98, 98, 99, 99, 100, 100, 101, 101]⟩ : ByteArray).extract 0 ((wrap64 (2 * (wrap64 (2 - t255)))) : Int).toNat), true)) else (none)) else (none))) = some (r1, r2) := H
  have A5 := Aside0.mk A50
  clear A50
  by_cases c6 : t256 = true
  ·subst c6
   have H1 : (if 0 ≤ (wrap64 (2 * (wrap64 (2 - t255)))) then (if (wrap64 (2 * (wrap64 (2 - t255)))) ≤ 8 then (if 0 ≤ (wrap64 (2 * (mx 0 (wrap64 (1 - (wrap64 (2 - t255))))))) then (if (wrap64 (2 * (mx 0 (wrap64 (1 - (wrap64 (2 - t255))))))) ≤ 2 then (if ((⟨#[97, 98, 65, 66, 99, 100, 67, 68]⟩ : ByteArray).extract 0 ((wrap64 (2 * (wrap64 (2 - t255)))) : Int).toNat).size + ((⟨#[97, 65]⟩ : ByteArray).extract 0 ((wrap64 (2 * (mx 0 (wrap64 (1 - (wrap64 (2 - t255))))))) : Int).toNat).size ≤ 9223372036854775807 then (some ((((⟨#[97, 98, 65, 66, 99, 100, 67, 68]⟩ : ByteArray).extract 0 ((wrap64 (2 * (wrap64 (2 - t255)))) : Int).toNat) ++ ((⟨#[97, 65]⟩ : ByteArray).extract 0 ((wrap64 (2 * (mx 0 (wrap64 (1 - (wrap64 (2 - t255))))))) : Int).toNat)), true)) else (none)) else (none)) else (none)) else (none)) else (none)) = some (r1, r2) := by rw [if_pos rfl] at H; exact H
   clear H
   have H := H1
   clear H1
   obtain ⟨ji7, hji7⟩ : ∃ j_ : Int, (wrap64 (2 * (wrap64 (2 - t255)))) = j_ := ⟨_, rfl⟩
   replace H : (if 0 ≤ (ji7) then (if (ji7) ≤ 8 then (if 0 ≤ (wrap64 (2 * (mx 0 (wrap64 (1 - (wrap64 (2 - t255))))))) then (if (wrap64 (2 * (mx 0 (wrap64 (1 - (wrap64 (2 - t255))))))) ≤ 2 then (if ((⟨#[97, 98, 65, 66, 99, 100, 67, 68]⟩ : ByteArray).extract 0 ((ji7) : Int).toNat).size + ((⟨#[97, 65]⟩ : ByteArray).extract 0 ((wrap64 (2 * (mx 0 (wrap64 (1 - (wrap64 (2 - t255))))))) : Int).toNat).size ≤ 9223372036854775807 then (some ((((⟨#[97, 98, 65, 66, 99, 100, 67, 68]⟩ : ByteArray).extract 0 ((ji7) : Int).toNat) ++ ((⟨#[97, 65]⟩ : ByteArray).extract 0 ((wrap64 (2 * (mx 0 (wrap64 (1 - (wrap64 (2 - t255))))))) : Int).toNat)), true)) else (none)) else (none)) else (none)) else (none)) else (none)) = some (r1, r2) := by first | (rw [hji7] at H; exact H) | (simp only [hji7] at H ⊢; exact H)
   (try rw [hji7] at A2)
   (try rw [hji7] at A4)
   (try rw [hji7] at A5)
   have hji7w : (IntKind.i64.wrap (2 * (wrap64 (2 - t255)))) = ji7 := (i64_w _).trans hji7
   by_cases c8 : 0 ≤ (ji7)
   ·rw [if_pos c8] at H
    have c8b0 := eq_true c8
    have c8b1 : decide (0 ≤ (ji7)) = true := decide_eq_true c8
    clear c8
    by_cases c9 : (ji7) ≤ 8
    ·rw [if_pos c9] at H
     have c9b0 := eq_true c9
     have c9b1 : decide ((ji7) ≤ 8) = true := decide_eq_true c9
     clear c9
     obtain ⟨zs10, hzs10⟩ : ∃ j_ : ByteArray, ((⟨#[97, 98, 65, 66, 99, 100, 67, 68]⟩ : ByteArray).extract 0 ((ji7) : Int).toNat) = j_ := ⟨_, rfl⟩
     replace H : (if 0 ≤ (wrap64 (2 * (mx 0 (wrap64 (1 - (wrap64 (2 - t255))))))) then (if (wrap64 (2 * (mx 0 (wrap64 (1 - (wrap64 (2 - t255))))))) ≤ 2 then (if zs10.size + ((⟨#[97, 65]⟩ : ByteArray).extract 0 ((wrap64 (2 * (mx 0 (wrap64 (1 - (wrap64 (2 - t255))))))) : Int).toNat).size ≤ 9223372036854775807 then (some ((zs10 ++ ((⟨#[97, 65]⟩ : ByteArray).extract 0 ((wrap64 (2 * (mx 0 (wrap64 (1 - (wrap64 (2 - t255))))))) : Int).toNat)), true)) else (none)) else (none)) else (none)) = some (r1, r2) := by first | (rw [hzs10] at H; exact H) | (simp only [hzs10] at H ⊢; exact H) | exact H
     (try rw [hzs10] at A2)
     (try rw [hzs10] at A4)
     (try rw [hzs10] at A5)
     obtain ⟨ji11, hji11⟩ : ∃ j_ : Int, (mx 0 (wrap64 (1 - (wrap64 (2 - t255))))) = j_ := ⟨_, rfl⟩
     replace H : (if 0 ≤ (wrap64 (2 * (ji11))) then (if (wrap64 (2 * (ji11))) ≤ 2 then (if zs10.size + ((⟨#[97, 65]⟩ : ByteArray).extract 0 ((wrap64 (2 * (ji11))) : Int).toNat).size ≤ 9223372036854775807 then (some ((zs10 ++ ((⟨#[97, 65]⟩ : ByteArray).extract 0 ((wrap64 (2 * (ji11))) : Int).toNat)), true)) else (none)) else (none)) else (none)) = some (r1, r2) := by first | (rw [hji11] at H; exact H) | (simp only [hji11] at H ⊢; exact H)
     (try rw [hji11] at A2)
     (try rw [hji11] at A4)
     (try rw [hji11] at A5)
     (try (have hji11l : 0 ≤ ji11 := by (rw [← hji11]; unfold mx; (repeat' split) <;> omega)))
     (try (have hji11m : 0 ≤ ji11 := by omega))
     have hji11_ : (if 0 < (wrap64 (1 - (wrap64 (2 - t255)))) then (wrap64 (1 - (wrap64 (2 - t255)))) else 0) = ji11 := hji11
     obtain ⟨ji12, hji12⟩ : ∃ j_ : Int, (wrap64 (2 * (ji11))) = j_ := ⟨_, rfl⟩
     replace H : (if 0 ≤ (ji12) then (if (ji12) ≤ 2 then (if zs10.size + ((⟨#[97, 65]⟩ : ByteArray).extract 0 ((ji12) : Int).toNat).size ≤ 9223372036854775807 then (some ((zs10 ++ ((⟨#[97, 65]⟩ : ByteArray).extract 0 ((ji12) : Int).toNat)), true)) else (none)) else (none)) else (none)) = some (r1, r2) := by first | (rw [hji12] at H; exact H) | (simp only [hji12] at H ⊢; exact H)
     (try rw [hji12] at A2)
     (try rw [hji12] at A4)
     (try rw [hji12] at A5)
     have hji12w : (IntKind.i64.wrap (2 * (ji11))) = ji12 := (i64_w _).trans hji12
     by_cases c13 : 0 ≤ (ji12)
     ·rw [if_pos c13] at H
      have c13b0 := eq_true c13
      have c13b1 : decide (0 ≤ (ji12)) = true := decide_eq_true c13
      clear c13
      by_cases c14 : (ji12) ≤ 2
      ·rw [if_pos c14] at H
       have c14b0 := eq_true c14
       have c14b1 : decide ((ji12) ≤ 2) = true := decide_eq_true c14
       clear c14
       obtain ⟨zs15, hzs15⟩ : ∃ j_ : ByteArray, ((⟨#[97, 65]⟩ : ByteArray).extract 0 ((ji12) : Int).toNat) = j_ := ⟨_, rfl⟩
       replace H : (if zs10.size + zs15.size ≤ 9223372036854775807 then (some ((zs10 ++ zs15), true)) else (none)) = some (r1, r2) := by first | (rw [hzs15] at H; exact H) | (simp only [hzs15] at H ⊢; exact H) | exact H
       (try rw [hzs15] at A2)
       (try rw [hzs15] at A4)
       (try rw [hzs15] at A5)
       by_cases c16 : zs10.size + zs15.size ≤ 9223372036854775807
       ·rw [if_pos c16] at H
        have c16b0 := eq_true c16
        have c16b1 : decide (zs10.size + zs15.size ≤ 9223372036854775807) = true := decide_eq_true c16
        try have c16b2 : (9223372036854775807 < zs10.size + zs15.size) = False := eq_false (Nat.not_lt.2 c16)
        obtain ⟨zs17, hzs17⟩ : ∃ j_ : ByteArray, (zs10 ++ zs15) = j_ := ⟨_, rfl⟩
        replace H : (some (zs17, true)) = some (r1, r2) := by first | (rw [hzs17] at H; exact H) | (simp only [hzs17] at H ⊢; exact H) | exact H
        (try rw [hzs17] at A2)
        (try rw [hzs17] at A4)
        (try rw [hzs17] at A5)
        simp only [Option.some.injEq, Prod.mk.injEq] at H
        obtain ⟨rfl, rfl⟩ := H
        go_enter Tryd.func27, Tryd.ntmps27
        go_wp2_with (first | (go_at_call 31; (with_reducible refine (impl_WordValid.calls a0 true _ A2.out).mono ?_); rintro e w18 ⟨rfl, hb⟩; have n0_ := Aside0.mk (below_step (by repeat (first | (with_reducible first | exact HB.out | apply below_alloc | apply pw_below_drewN | apply below_drew1) | exact HB.out)) hb); clear HB; have HB := n0_; clear n0_; (try clear hb); (try clear hb2); (try clear hk); (try clear hi)) | (go_at_call 25; (with_reducible refine (impl_WordNumber.calls k a0 t255 _ A4.out).mono ?_); rintro e w19 ⟨rfl, hb⟩; have n0_ := Aside0.mk (below_step (by repeat (first | (with_reducible first | exact HB.out | apply below_alloc | apply pw_below_drewN | apply below_drew1) | exact HB.out)) hb); clear HB; have HB := n0_; clear n0_; (try clear hb); (try clear hb2); (try clear hk); (try clear hi)) | (go_at_call 26; (with_reducible refine (impl_WordSided.calls k a0 true _ A5.out).mono ?_); rintro e w20 ⟨rfl, hb⟩; have n0_ := Aside0.mk (below_step (by repeat (first | (with_reducible first | exact HB.out | apply below_alloc | apply pw_below_drewN | apply below_drew1) | exact HB.out)) hb); clear HB; have HB := n0_; clear n0_; (try clear hb); (try clear hb2); (try clear hk); (try clear hi)))
        repeat (go_quiet (first | (go_at_call 31; (with_reducible refine (impl_WordValid.calls a0 true _ A2.out).mono ?_); rintro e w18 ⟨rfl, hb⟩; have n0_ := Aside0.mk (below_step (by repeat (first | (with_reducible first | exact HB.out | apply below_alloc | apply pw_below_drewN | apply below_drew1) | exact HB.out)) hb); clear HB; have HB := n0_; clear n0_; (try clear hb); (try clear hb2); (try clear hk); (try clear hi)) | (go_at_call 25; (with_reducible refine (impl_WordNumber.calls k a0 t255 _ A4.out).mono ?_); rintro e w19 ⟨rfl, hb⟩; have n0_ := Aside0.mk (below_step (by repeat (first | (with_reducible first | exact HB.out | apply below_alloc | apply pw_below_drewN | apply below_drew1) | exact HB.out)) hb); clear HB; have HB := n0_; clear n0_; (try clear hb); (try clear hb2); (try clear hk); (try clear hi)) | (go_at_call 26; (with_reducible refine (impl_WordSided.calls k a0 true _ A5.out).mono ?_); rintro e w20 ⟨rfl, hb⟩; have n0_ := Aside0.mk (below_step (by repeat (first | (with_reducible first | exact HB.out | apply below_alloc | apply pw_below_drewN | apply below_drew1) | exact HB.out)) hb); clear HB; have HB := n0_; clear n0_; (try clear hb); (try clear hb2); (try clear hk); (try clear hi))); try go_wp2_with (first | (go_at_call 31; (with_reducible refine (impl_WordValid.calls a0 true _ A2.out).mono ?_); rintro e w18 ⟨rfl, hb⟩; have n0_ := Aside0.mk (below_step (by repeat (first | (with_reducible first | exact HB.out | apply below_alloc | apply pw_below_drewN | apply below_drew1) | exact HB.out)) hb); clear HB; have HB := n0_; clear n0_; (try clear hb); (try clear hb2); (try clear hk); (try clear hi)) | (go_at_call 25; (with_reducible refine (impl_WordNumber.calls k a0 t255 _ A4.out).mono ?_); rintro e w19 ⟨rfl, hb⟩; have n0_ := Aside0.mk (below_step (by repeat (first | (with_reducible first | exact HB.out | apply below_alloc | apply pw_below_drewN | apply below_drew1) | exact HB.out)) hb); clear HB; have HB := n0_; clear n0_; (try clear hb); (try clear hb2); (try clear hk); (try clear hi)) | (go_at_call 26; (with_reducible refine (impl_WordSided.calls k a0 true _ A5.out).mono ?_); rintro e w20 ⟨rfl, hb⟩; have n0_ := Aside0.mk (below_step (by repeat (first | (with_reducible first | exact HB.out | apply below_alloc | apply pw_below_drewN | apply below_drew1) | exact HB.out)) hb); clear HB; have HB := n0_; clear n0_; (try clear hb); (try clear hb2); (try clear hk); (try clear hi))))
        go_ret2
        exact ⟨by first | rfl | (simp [errW_none, errW_some] <;> rfl) | (simp only [← hji7, ← hji11, ← hji12]; first | rfl | (simp [errW_none, errW_some] <;> rfl)) | (simp [*, errW_none, errW_some] <;> rfl), by repeat (first | (with_reducible first | exact HB.out | apply below_alloc | apply pw_below_drewN | apply below_drew1) | exact HB.out)⟩
       ·rw [if_neg c16] at H
        exact absurd H (by simp)
      ·rw [if_neg c14] at H
       exact absurd H (by simp)
     ·rw [if_neg c13] at H
      exact absurd H (by simp)
    ·rw [if_neg c9] at H
     exact absurd H (by simp)
   ·rw [if_neg c8] at H
    exact absurd H (by simp)
  ·replace c6 := Bool.eq_false_iff.mpr c6
   subst c6
   have H1 : (if 0 ≤ (wrap64 (2 * (wrap64 (2 - t255)))) then (if (wrap64 (2 * (wrap64 (2 - t255)))) ≤ 10 then (some (((⟨#[97, 97, 98, 98, 99, 99, 100, 100, 101, 101]⟩ : ByteArray).extract 0 ((wrap64 (2 * (wrap64 (2 - t255)))) : Int).toNat), true)) else (none)) else (none)) = some (r1, r2) := by rw [if_neg (show ¬ (false = true) by decide)] at H; exact H
   clear H
   have H := H1
   clear H1
   obtain ⟨ji21, hji21⟩ : ∃ j_ : Int, (wrap64 (2 * (wrap64 (2 - t255)))) = j_ := ⟨_, rfl⟩
   replace H : (if 0 ≤ (ji21) then (if (ji21) ≤ 10 then (some (((⟨#[97, 97, 98, 98, 99, 99, 100, 100, 101, 101]⟩ : ByteArray).extract 0 ((ji21) : Int).toNat), true)) else (none)) else (none)) = some (r1, r2) := by first | (rw [hji21] at H; exact H) | (simp only [hji21] at H ⊢; exact H)
   (try rw [hji21] at A2)
   (try rw [hji21] at A4)
   (try rw [hji21] at A5)
   have hji21w : (IntKind.i64.wrap (2 * (wrap64 (2 - t255)))) = ji21 := (i64_w _).trans hji21
   by_cases c22 : 0 ≤ (ji21)
   ·rw [if_pos c22] at H
    have c22b0 := eq_true c22
    have c22b1 : decide (0 ≤ (ji21)) = true := decide_eq_true c22
    clear c22
    by_cases c23 : (ji21) ≤ 10
    ·rw [if_pos c23] at H
     have c23b0 := eq_true c23
     have c23b1 : decide ((ji21) ≤ 10) = true := decide_eq_true c23
     clear c23
     obtain ⟨zs24, hzs24⟩ : ∃ j_ : ByteArray, ((⟨#[97, 97, 98, 98, 99, 99, 100, 100, 101, 101]⟩ : ByteArray).extract 0 ((ji21) : Int).toNat) = j_ := ⟨_, rfl⟩
     replace H : (some (zs24, true)) = some (r1, r2) := by first | (rw [hzs24] at H; exact H) | (simp only [hzs24] at H ⊢; exact H) | exact H
     (try rw [hzs24] at A2)
     (try rw [hzs24] at A4)
     (try rw [hzs24] at A5)
     simp only [Option.some.injEq, Prod.mk.injEq] at H
     obtain ⟨rfl, rfl⟩ := H
     go_enter Tryd.func27, Tryd.ntmps27
     go_wp2_with (first | (go_at_call 31; (with_reducible refine (impl_WordValid.calls a0 true _ A2.out).mono ?_); rintro e w25 ⟨rfl, hb⟩; have n0_ := Aside0.mk (below_step (by repeat (first | (with_reducible first | exact HB.out | apply below_alloc | apply pw_below_drewN | apply below_drew1) | exact HB.out)) hb); clear HB; have HB := n0_; clear n0_; (try clear hb); (try clear hb2); (try clear hk); (try clear hi)) | (go_at_call 25; (with_reducible refine (impl_WordNumber.calls k a0 t255 _ A4.out).mono ?_); rintro e w26 ⟨rfl, hb⟩; have n0_ := Aside0.mk (below_step (by repeat (first | (with_reducible first | exact HB.out | apply below_alloc | apply pw_below_drewN | apply below_drew1) | exact HB.out)) hb); clear HB; have HB := n0_; clear n0_; (try clear hb); (try clear hb2); (try clear hk); (try clear hi)) | (go_at_call 26; (with_reducible refine (impl_WordSided.calls k a0 false _ A5.out).mono ?_); rintro e w27 ⟨rfl, hb⟩; have n0_ := Aside0.mk (below_step (by repeat (first | (with_reducible first | exact HB.out | apply below_alloc | apply pw_below_drewN | apply below_drew1) | exact HB.out)) hb); clear HB; have HB := n0_; clear n0_; (try clear hb); (try clear hb2); (try clear hk); (try clear hi)))
     repeat (go_quiet (first | (go_at_call 31; (with_reducible refine (impl_WordValid.calls a0 true _ A2.out).mono ?_); rintro e w25 ⟨rfl, hb⟩; have n0_ := Aside0.mk (below_step (by repeat (first | (with_reducible first | exact HB.out | apply below_alloc | apply pw_below_drewN | apply below_drew1) | exact HB.out)) hb); clear HB; have HB := n0_; clear n0_; (try clear hb); (try clear hb2); (try clear hk); (try clear hi)) | (go_at_call 25; (with_reducible refine (impl_WordNumber.calls k a0 t255 _ A4.out).mono ?_); rintro e w26 ⟨rfl, hb⟩; have n0_ := Aside0.mk (below_step (by repeat (first | (with_reducible first | exact HB.out | apply below_alloc | apply pw_below_drewN | apply below_drew1) | exact HB.out)) hb); clear HB; have HB := n0_; clear n0_; (try clear hb); (try clear hb2); (try clear hk); (try clear hi)) | (go_at_call 26; (with_reducible refine (impl_WordSided.calls k a0 false _ A5.out).mono ?_); rintro e w27 ⟨rfl, hb⟩; have n0_ := Aside0.mk (below_step (by repeat (first | (with_reducible first | exact HB.out | apply below_alloc | apply pw_below_drewN | apply below_drew1) | exact HB.out)) hb); clear HB; have HB := n0_; clear n0_; (try clear hb); (try clear hb2); (try clear hk); (try clear hi))); try go_wp2_with (first | (go_at_call 31; (with_reducible refine (impl_WordValid.calls a0 true _ A2.out).mono ?_); rintro e w25 ⟨rfl, hb⟩; have n0_ := Aside0.mk (below_step (by repeat (first | (with_reducible first | exact HB.out | apply below_alloc | apply pw_below_drewN | apply below_drew1) | exact HB.out)) hb); clear HB; have HB := n0_; clear n0_; (try clear hb); (try clear hb2); (try clear hk); (try clear hi)) | (go_at_call 25; (with_reducible refine (impl_WordNumber.calls k a0 t255 _ A4.out).mono ?_); rintro e w26 ⟨rfl, hb⟩; have n0_ := Aside0.mk (below_step (by repeat (first | (with_reducible first | exact HB.out | apply below_alloc | apply pw_below_drewN | apply below_drew1) | exact HB.out)) hb); clear HB; have HB := n0_; clear n0_; (try clear hb); (try clear hb2); (try clear hk); (try clear hi)) | (go_at_call 26; (with_reducible refine (impl_WordSided.calls k a0 false _ A5.out).mono ?_); rintro e w27 ⟨rfl, hb⟩; have n0_ := Aside0.mk (below_step (by repeat (first | (with_reducible first | exact HB.out | apply below_alloc | apply pw_below_drewN | apply below_drew1) | exact HB.out)) hb); clear HB; have HB := n0_; clear n0_; (try clear hb); (try clear hb2); (try clear hk); (try clear hi))))
     go_ret2
     exact ⟨by first | rfl | (simp [errW_none, errW_some] <;> rfl) | (simp only [← hji21]; first | rfl | (simp [errW_none, errW_some] <;> rfl)) | (simp [*, errW_none, errW_some] <;> rfl), by repeat (first | (with_reducible first | exact HB.out | apply below_alloc | apply pw_below_drewN | apply below_drew1) | exact HB.out)⟩
    ·rw [if_neg c23] at H
     exact absurd H (by simp)
   ·rw [if_neg c22] at H
    exact absurd H (by simp)
 ·replace c3 := Bool.eq_false_iff.mpr c3
  subst c3
  have H1 : (some ((⟨#[]⟩ : ByteArray), false)) = some (r1, r2) := by rw [if_neg (show ¬ (false = true) by decide)] at H; exact H
  clear H
  have H := H1
  clear H1
  simp only [Option.some.injEq, Prod.mk.injEq] at H
  obtain ⟨rfl, rfl⟩ := H
  go_enter Tryd.func27, Tryd.ntmps27
  go_wp2_with (first | (go_at_call 31; (with_reducible refine (impl_WordValid.calls a0 false _ A2.out).mono ?_); rintro e w28 ⟨rfl, hb⟩; have n0_ := Aside0.mk (below_step (by repeat (first | (with_reducible first | exact HB.out | apply below_alloc | apply pw_below_drewN | apply below_drew1) | exact HB.out)) hb); clear HB; have HB := n0_; clear n0_; (try clear hb); (try clear hb2); (try clear hk); (try clear hi)))
  repeat (go_quiet (first | (go_at_call 31; (with_reducible refine (impl_WordValid.calls a0 false _ A2.out).mono ?_); rintro e w28 ⟨rfl, hb⟩; have n0_ := Aside0.mk (below_step (by repeat (first | (with_reducible first | exact HB.out | apply below_alloc | apply pw_below_drewN | apply below_drew1) | exact HB.out)) hb); clear HB; have HB := n0_; clear n0_; (try clear hb); (try clear hb2); (try clear hk); (try clear hi))); try go_wp2_with (first | (go_at_call 31; (with_reducible refine (impl_WordValid.calls a0 false _ A2.out).mono ?_); rintro e w28 ⟨rfl, hb⟩; have n0_ := Aside0.mk (below_step (by repeat (first | (with_reducible first | exact HB.out | apply below_alloc | apply pw_below_drewN | apply below_drew1) | exact HB.out)) hb); clear HB; have HB := n0_; clear n0_; (try clear hb); (try clear hb2); (try clear hk); (try clear hi))))
  go_ret2
  exact ⟨by first | rfl | (simp [errW_none, errW_some] <;> rfl) | (simp [*, errW_none, errW_some] <;> rfl), by repeat (first | (with_reducible first | exact HB.out | apply below_alloc | apply pw_below_drewN | apply below_drew1) | exact HB.out)⟩

/-! ### laws_FnJoinHandle: function 7 -/
def laws_FnJoinHandle.j0 : Nat → ByteArray → ByteArray → ByteArray → Bool → ByteArray → Bool → Bool → Option (Bool)
  | 0, _, _, _, _, _, _, _ => none
  | k + 1, x3, x4, x5, x6, x7, x8, x48 => if x48 = true then (if (x6 == x8) = true then (some (x5.toList == x7.toList)) else (some false)) else ((impl_WordNormal.f k x3).bind fun bt263 => ((impl_WordNormal.f k x4).bind fun bt265 => ((impl_WordJoin.f k bt263.1 bt265.1).bind fun bt267 => ((impl_WordJoin.f k x3 (⟨#[97, 65]⟩ : ByteArray)).bind fun bt269 => (if bt263.2 = true then (if bt265.2 = true then (if bt267.2 = true then ((impl_WordSame.f k bt267.1 x5).bind fun t271 => (if t271 = true then (if bt269.2 = true then ((impl_WordSame.f k bt269.1 x3).bind fun t272 => (some t272)) else (some true)) else (some false))) else (if bt269.2 = true then ((impl_WordSame.f k bt269.1 x3).bind fun t273 => (some t273)) else (some true))) else (some false)) else (some false))))))
def laws_FnJoinHandle.f (k : Nat) (l0 : List Int) : Option (Bool) := if (l0.length : Int) > 1048576 then (some true) else ((spec_DrawWordJoin.f k l0).bind fun bt257 => ((impl_WordJoin.f k bt257.1 bt257.2).bind fun bt259 => ((spec_WordJoin.f k bt257.1 bt257.2).bind fun bt261 => (if (bt259.2 != bt261.2) = true then (laws_FnJoinHandle.j0 k bt257.1 bt257.2 bt259.1 bt259.2 bt261.1 bt261.2 true) else (if bt259.1.toList = bt261.1.toList then (laws_FnJoinHandle.j0 k bt257.1 bt257.2 bt259.1 bt259.2 bt261.1 bt261.2 (!bt259.2)) else (laws_FnJoinHandle.j0 k bt257.1 bt257.2 bt259.1 bt259.2 bt261.1 bt261.2 true))))))
set_option maxHeartbeats 8000000 in
set_option maxRecDepth 100000 in
theorem laws_FnJoinHandle.calls (k : Nat) (A0 : Option Addr) (c0 : Nat) (l0 : List Int) (r : Bool) (w : World) (hr0 : Kd.C (Kd.int .u8) w A0 l0.length l0) (hc0 : l0.length ≤ c0) (h : laws_FnJoinHandle.f k l0 = some r) :
    Calls Tryd.prog 7 #[.slice A0 l0.length c0] w fun e w' => e = .returned (.bool r) ∧ Below w.heap.size w w' := by
 have HR0 := Aside0.mk hr0
 have HC0 := Aside0.mk hc0
 clear hr0 hc0
 have HB := Aside0.mk (Below.refl w.heap.size w)
 have H : (if (l0.length : Int) > 1048576 then (some true) else ((spec_DrawWordJoin.f k l0).bind fun bt257 => ((impl_WordJoin.f k bt257.1 bt257.2).bind fun bt259 => ((spec_WordJoin.f k bt257.1 bt257.2).bind fun bt261 => (if (bt259.2 != bt261.2) = true then (laws_FnJoinHandle.j0 k bt257.1 bt257.2 bt259.1 bt259.2 bt261.1 bt261.2 true) else (if bt259.1.toList = bt261.1.toList then (laws_FnJoinHandle.j0 k bt257.1 bt257.2 bt259.1 bt259.2 bt261.1 bt261.2 (!bt259.2)) else (laws_FnJoinHandle.j0 k bt257.1 bt257.2 bt259.1 bt259.2 bt261.1 bt261.2 true))))))) = some r := h
 clear h
 by_cases c2 : (l0.length : Int) > 1048576
 ·rw [if_pos c2] at H
  have c2b0 : decide (1048576 < (l0.length : Int)) = true := decide_eq_true c2
  have c2b1 : decide (1048576 < l0.length) = true := decide_eq_true (by omega)
  clear c2
  obtain rfl := Option.some.inj H
  go_enter Tryd.func7, Tryd.ntmps7
  go_wp2
  go_ret
  exact ⟨by first | rfl | (simp [errW_none, errW_some] <;> rfl) | (simp [*, errW_none, errW_some] <;> rfl), by repeat (first | (with_reducible first | exact HB.out | apply below_alloc | apply pw_below_drewN | apply below_drew1) | exact HB.out)⟩
 ·rw [if_neg c2] at H
  have c2b0 : decide (1048576 < (l0.length : Int)) = false := decide_eq_false c2
  have c2b1 : decide (1048576 < l0.length) = false := decide_eq_false (by omega)
  clear c2
  replace H := Option.bind_eq_some_iff.mp H
  obtain ⟨⟨t257, t258⟩, A30, H⟩ := H
  replace H : ((impl_WordJoin.f k t257 t258).bind fun bt259 => ((spec_WordJoin.f k t257 t258).bind fun bt261 => (if (bt259.2 != bt261.2) = true then (laws_FnJoinHandle.j0 k t257 t258 bt259.1 bt259.2 bt261.1 bt261.2 true) else (if bt259.1.toList = bt261.1.toList then (laws_FnJoinHandle.j0 k t257 t258 bt259.1 bt259.2 bt261.1 bt261.2 (!bt259.2)) else (laws_FnJoinHandle.j0 k t257 t258 bt259.1 bt259.2 bt261.1 bt261.2 true))))) = some r := H
  have A3 := Aside0.mk A30
  clear A30
  replace H := Option.bind_eq_some_iff.mp H
  obtain ⟨⟨t259, t260⟩, A40, H⟩ := H
  replace H : ((spec_WordJoin.f k t257 t258).bind fun bt261 => (if (t260 != bt261.2) = true then (laws_FnJoinHandle.j0 k t257 t258 t259 t260 bt261.1 bt261.2 true) else (if t259.toList = bt261.1.toList then (laws_FnJoinHandle.j0 k t257 t258 t259 t260 bt261.1 bt261.2 (!t260)) else (laws_FnJoinHandle.j0 k t257 t258 t259 t260 bt261.1 bt261.2 true)))) = some r := H
  have A4 := Aside0.mk A40
  clear A40
  replace H := Option.bind_eq_some_iff.mp H
  obtain ⟨⟨t261, t262⟩, A50, H⟩ := H
  replace H : (if (t260 != t262) = true then (laws_FnJoinHandle.j0 k t257 t258 t259 t260 t261 t262 true) else (if t259.toList = t261.toList then (laws_FnJoinHandle.j0 k t257 t258 t259 t260 t261 t262 (!t260)) else (laws_FnJoinHandle.j0 k t257 t258 t259 t260 t261 t262 true))) = some r := H
  have A5 := Aside0.mk A50
  clear A50
  have HC6 := Aside0.mk H
  clear H
  go_enter Tryd.func7, Tryd.ntmps7
  go_upto_region 6 with (first | ((with_reducible refine gate_callee (f := 22) rfl ?_); refine goesL_ (some 22) rfl rfl Tryd.func22 (by kernel_rfl) rfl #[.slice A0 l0.length c0] rfl (by (try simp only [List.map_toArray, List.map_cons, List.map_nil]); first | done | rfl | (simp only [List.length_drop, List.length_take]; rfl)) ?_; (with_reducible refine (spec_DrawWordJoin.calls k _ _ l0 t257 t258 _ ?side1 ?side2 A3.out).mono ?_); (case side1 => repeat (first | exact HR0.out | (with_reducible refine Kd.C_alloc ?_ _) | (with_reducible refine Kd.C_drewN ?_ _) | (with_reducible refine Kd.C_drew ?_))); (case side2 => exact HC0.out); rintro e w7 ⟨rfl, hb⟩; refine ⟨_, rfl, ?_⟩; have n0_ := Aside0.mk (below_step (by repeat (first | (with_reducible first | exact HB.out | apply below_alloc | apply pw_below_drewN | apply below_drew1) | exact HB.out)) hb); clear HB; have HB := n0_; clear n0_; (try clear hb); (try clear hb2); (try clear hk); (try clear hi)) | ((with_reducible refine gate_callee (f := 23) rfl ?_); refine goesL_ (some 28) rfl rfl Tryd.func23 (by kernel_rfl) rfl #[.string t257, .string t258] rfl (by (try simp only [List.map_toArray, List.map_cons, List.map_nil]); first | done | rfl | (simp only [List.length_drop, List.length_take]; rfl)) ?_; (with_reducible refine (impl_WordJoin.calls k t257 t258 t259 t260 _ A4.out).mono ?_); rintro e w8 ⟨rfl, hb⟩; refine ⟨_, rfl, ?_⟩; have n0_ := Aside0.mk (below_step (by repeat (first | (with_reducible first | exact HB.out | apply below_alloc | apply pw_below_drewN | apply below_drew1) | exact HB.out)) hb); clear HB; have HB := n0_; clear n0_; (try clear hb); (try clear hb2); (try clear hk); (try clear hi)) | ((with_reducible refine gate_callee (f := 24) rfl ?_); refine goesL_ (some 34) rfl rfl Tryd.func24 (by kernel_rfl) rfl #[.string t257, .string t258] rfl (by (try simp only [List.map_toArray, List.map_cons, List.map_nil]); first | done | rfl | (simp only [List.length_drop, List.length_take]; rfl)) ?_; (with_reducible refine (spec_WordJoin.calls k t257 t258 t261 t262 _ A5.out).mono ?_); rintro e w9 ⟨rfl, hb⟩; refine ⟨_, rfl, ?_⟩; have n0_ := Aside0.mk (below_step (by repeat (first | (with_reducible first | exact HB.out | apply below_alloc | apply pw_below_drewN | apply below_drew1) | exact HB.out)) hb); clear HB; have HB := n0_; clear n0_; (try clear hb); (try clear hb2); (try clear hk); (try clear hi)))
  (try simp only [Act.put, List.setIfInBounds_toArray, List.set_cons_zero, List.set_cons_succ])
  go_cut [48] (fun v48 wc => ∃ (kq : Nat) (x48_5 : Bool), v48 = .bool x48_5 ∧ Aside0 (laws_FnJoinHandle.j0 kq t257 t258 t259 t260 t261 t262 x48_5 = some r) ∧ Aside0 (kq ≤ k) ∧ Aside0 (Below w.heap.size w wc))
  case first =>
   have H := HC6.out
   clear HC6
   by_cases c10 : (t260 != t262) = true
   ·rw [if_pos c10] at H
    have c10b0 : (t260 != t262) = true := c10
    (try (have c10b1 : decide (t260 = t262) = false := by simpa using c10))
    (try (have c10b2 : (t260 == t262) = false := by simpa using c10))
    (try (have c10b3 : ¬ (t260 = t262) := by simpa using c10))
    clear c10
    (first | rw [c10b0] | (simp only [i64_w, i32_w]; rw [c10b0]) | skip)
    have H' := Aside0.mk H
    clear H
    go_wp2
    go_meet
    case rel => exact ⟨_, (true), (by first | rfl | (simp; done) | (simp [*]; done)), H', ⟨by first | omega | exact Nat.le_refl _⟩, ⟨by repeat (first | (with_reducible first | exact HB.out | apply below_alloc | apply pw_below_drewN | apply below_drew1) | exact HB.out)⟩⟩
   ·rw [if_neg c10] at H
    have c10b0 : (t260 != t262) = false := by simpa using c10
    (try (have c10b1 : decide (t260 = t262) = true := by simpa using c10))
    (try (have c10b2 : (t260 == t262) = true := by simpa using c10))
    clear c10
    (first | rw [c10b0] | (simp only [i64_w, i32_w]; rw [c10b0]) | skip)
    by_cases c11 : t259.toList = t261.toList
    ·rw [if_pos c11] at H
     have c11b0 : (t259.toList == t261.toList) = true := beq_iff_eq.mpr c11
     have c11b1 : (t259.toList != t261.toList) = false := bne_eq_false_iff_eq.mpr c11
     clear c11
     have H' := Aside0.mk H
     clear H
     go_wp2
     go_meet
     case rel => exact ⟨_, (!t260), (by first | rfl | (simp; done) | (simp [*]; done)), H', ⟨by first | omega | exact Nat.le_refl _⟩, ⟨by repeat (first | (with_reducible first | exact HB.out | apply below_alloc | apply pw_below_drewN | apply below_drew1) | exact HB.out)⟩⟩
    ·rw [if_neg c11] at H
     have c11b0 : (t259.toList == t261.toList) = false := beq_eq_false_iff_ne.mpr c11
     have c11b1 : (t259.toList != t261.toList) = true := bne_iff_ne.mpr c11
     have H' := Aside0.mk H
     clear H
     go_wp2
     go_meet
     case rel => exact ⟨_, (true), (by first | rfl | (simp; done) | (simp [*]; done)), H', ⟨by first | omega | exact Nat.le_refl _⟩, ⟨by repeat (first | (with_reducible first | exact HB.out | apply below_alloc | apply pw_below_drewN | apply below_drew1) | exact HB.out)⟩⟩
  case rest =>
   clear HC6
   try clear c1
   try clear c2
   try clear c2b0
   try clear c2b1
   try clear p2
   try clear c7
   try clear c10
   try clear c10b0
   try clear c10b1
   try clear c10b2
   try clear c11
   try clear c11b0
   try clear c11b1
   obtain ⟨kq, x48_5, rfl, HA, HJ5, HB⟩ := hcut
   cases kq with
   | zero => exact absurd HA.out (by simp [laws_FnJoinHandle.j0])
   | succ kj5 =>
    have H := HA.out
    clear HA
    simp only [laws_FnJoinHandle.j0] at H
    by_cases c12 : x48_5 = true
    ·subst c12
     have H1 : (if (t260 == t262) = true then (some (t259.toList == t261.toList)) else (some false)) = some r := by rw [if_pos rfl] at H; exact H
     clear H
     have H := H1
     clear H1
     by_cases c13 : (t260 == t262) = true
     ·rw [if_pos c13] at H
      have c13b0 : (t260 == t262) = true := c13
      (try (have c13b1 : decide (t260 = t262) = true := by simpa using c13))
      (try (have c13b2 : (t260 == t262) = true := by simpa using c13))
      clear c13
      obtain rfl := Option.some.inj H
      go_wp2
      go_ret
      exact ⟨by first | rfl | (simp [errW_none, errW_some] <;> rfl) | (simp [*, errW_none, errW_some] <;> rfl), by repeat (first | (with_reducible first | exact HB.out | apply below_alloc | apply pw_below_drewN | apply below_drew1) | exact HB.out)⟩
     ·rw [if_neg c13] at H
      have c13b0 : (t260 == t262) = false := by simpa using c13
      (try (have c13b1 : decide (t260 = t262) = false := by simpa using c13))
      (try (have c13b2 : (t260 == t262) = false := by simpa using c13))
      (try (have c13b3 : ¬ (t260 = t262) := by simpa using c13))
      clear c13
      obtain rfl := Option.some.inj H
      go_wp2
      go_ret
      exact ⟨by first | rfl | (simp [errW_none, errW_some] <;> rfl) | (simp [*, errW_none, errW_some] <;> rfl), by repeat (first | (with_reducible first | exact HB.out | apply below_alloc | apply pw_below_drewN | apply below_drew1) | exact HB.out)⟩
    ·replace c12 := Bool.eq_false_iff.mpr c12
     subst c12
     have H1 : ((impl_WordNormal.f kj5 t257).bind fun bt263 => ((impl_WordNormal.f kj5 t258).bind fun bt265 => ((impl_WordJoin.f kj5 bt263.1 bt265.1).bind fun bt267 => ((impl_WordJoin.f kj5 t257 (⟨#[97, 65]⟩ : ByteArray)).bind fun bt269 => (if bt263.2 = true then (if bt265.2 = true then (if bt267.2 = true then ((impl_WordSame.f kj5 bt267.1 t259).bind fun t271 => (if t271 = true then (if bt269.2 = true then ((impl_WordSame.f kj5 bt269.1 t257).bind fun t272 => (some t272)) else (some true)) else (some false))) else (if bt269.2 = true then ((impl_WordSame.f kj5 bt269.1 t257).bind fun t273 => (some t273)) else (some true))) else (some false)) else (some false)))))) = some r := by rw [if_neg (show ¬ (false = true) by decide)] at H; exact H
     clear H
     have H := H1
     clear H1
     replace H := Option.bind_eq_some_iff.mp H
     obtain ⟨⟨t263, t264⟩, A140, H⟩ := H
     replace H : ((impl_WordNormal.f kj5 t258).bind fun bt265 => ((impl_WordJoin.f kj5 t263 bt265.1).bind fun bt267 => ((impl_WordJoin.f kj5 t257 (⟨#[97, 65]⟩ : ByteArray)).bind fun bt269 => (if t264 = true then (if bt265.2 = true then (if bt267.2 = true then ((impl_WordSame.f kj5 bt267.1 t259).bind fun t271 => (if t271 = true then (if bt269.2 = true then ((impl_WordSame.f kj5 bt269.1 t257).bind fun t272 => (some t272)) else (some true)) else (some false))) else (if bt269.2 = true then ((impl_WordSame.f kj5 bt269.1 t257).bind fun t273 => (some t273)) else (some true))) else (some false)) else (some false))))) = some r := H
     have A14 := Aside0.mk A140
     clear A140
     replace H := Option.bind_eq_some_iff.mp H
     obtain ⟨⟨t265, t266⟩, A150, H⟩ := H
     replace H : ((impl_WordJoin.f kj5 t263 t265).bind fun bt267 => ((impl_WordJoin.f kj5 t257 (⟨#[97, 65]⟩ : ByteArray)).bind fun bt269 => (if t264 = true then (if t266 = true then (if bt267.2 = true then ((impl_WordSame.f kj5 bt267.1 t259).bind fun t271 => (if t271 = true then (if bt269.2 = true then ((impl_WordSame.f kj5 bt269.1 t257).bind fun t272 => (some t272)) else (some true)) else (some false))) else (if bt269.2 = true then ((impl_WordSame.f kj5 bt269.1 t257).bind fun t273 => (some t273)) else (some true))) else (some false)) else (some false)))) = some r := H
     have A15 := Aside0.mk A150
     clear A150
     replace H := Option.bind_eq_some_iff.mp H
     obtain ⟨⟨t267, t268⟩, A160, H⟩ := H
     replace H : ((impl_WordJoin.f kj5 t257 (⟨#[97, 65]⟩ : ByteArray)).bind fun bt269 => (if t264 = true then (if t266 = true then (if t268 = true then ((impl_WordSame.f kj5 t267 t259).bind fun t271 => (if t271 = true then (if bt269.2 = true then ((impl_WordSame.f kj5 bt269.1 t257).bind fun t272 => (some t272)) else (some true)) else (some false))) else (if bt269.2 = true then ((impl_WordSame.f kj5 bt269.1 t257).bind fun t273 => (some t273)) else (some true))) else (some false)) else (some false))) = some r := H
     have A16 := Aside0.mk A160
     clear A160
     replace H := Option.bind_eq_some_iff.mp H
     obtain ⟨⟨t269, t270⟩, A170, H⟩ := H
     replace H : (if t264 = true then (if t266 = true then (if t268 = true then ((impl_WordSame.f kj5 t267 t259).bind fun t271 => (if t271 = true then (if t270 = true then ((impl_WordSame.f kj5 t269 t257).bind fun t272 => (some t272)) else (some true)) else (some false))) else (if t270 = true then ((impl_WordSame.f kj5 t269 t257).bind fun t273 => (some t273)) else (some true))) else (some false)) else (some false)) = some r := H
     have A17 := Aside0.mk A170
     clear A170
     by_cases c18 : t264 = true
     ·subst c18
      have H1 : (if t266 = true then (if t268 = true then ((impl_WordSame.f kj5 t267 t259).bind fun t271 => (if t271 = true then (if t270 = true then ((impl_WordSame.f kj5 t269 t257).bind fun t272 => (some t272)) else (some true)) else (some false))) else (if t270 = true then ((impl_WordSame.f kj5 t269 t257).bind fun t273 => (some t273)) else (some true))) else (some false)) = some r := by rw [if_pos rfl] at H; exact H
      clear H
      have H := H1
      clear H1
      by_cases c19 : t266 = true
      ·subst c19
       have H1 : (if t268 = true then ((impl_WordSame.f kj5 t267 t259).bind fun t271 => (if t271 = true then (if t270 = true then ((impl_WordSame.f kj5 t269 t257).bind fun t272 => (some t272)) else (some true)) else (some false))) else (if t270 = true then ((impl_WordSame.f kj5 t269 t257).bind fun t273 => (some t273)) else (some true))) = some r := by rw [if_pos rfl] at H; exact H
       clear H
       have H := H1
       clear H1
       by_cases c20 : t268 = true
       ·subst c20
        have H1 : ((impl_WordSame.f kj5 t267 t259).bind fun t271 => (if t271 = true then (if t270 = true then ((impl_WordSame.f kj5 t269 t257).bind fun t272 => (some t272)) else (some true)) else (some false))) = some r := by rw [if_pos rfl] at H; exact H
        clear H
        have H := H1
        clear H1
        replace H := Option.bind_eq_some_iff.mp H
        obtain ⟨t271, A210, H⟩ := H
        replace H : (if t271 = true then (if t270 = true then ((impl_WordSame.f kj5 t269 t257).bind fun t272 => (some t272)) else (some true)) else (some false)) = some r := H
        have A21 := Aside0.mk A210
        clear A210
        by_cases c22 : t271 = true
        ·subst c22
         have H1 : (if t270 = true then ((impl_WordSame.f kj5 t269 t257).bind fun t272 => (some t272)) else (some true)) = some r := by rw [if_pos rfl] at H; exact H
         clear H
         have H := H1
         clear H1
         by_cases c23 : t270 = true
         ·subst c23
          have H1 : ((impl_WordSame.f kj5 t269 t257).bind fun t272 => (some t272)) = some r := by rw [if_pos rfl] at H; exact H
          clear H
          have H := H1
          clear H1
          replace H := Option.bind_eq_some_iff.mp H
          obtain ⟨t272, A240, H⟩ := H
          replace H : (some t272) = some r := H
          have A24 := Aside0.mk A240
          clear A240
          obtain rfl := Option.some.inj H
          go_wp2_with (first | ((with_reducible refine gate_callee (f := 27) rfl ?_); refine goesL_ (some 59) rfl rfl Tryd.func27 (by kernel_rfl) rfl #[.string t257] rfl (by (try simp only [List.map_toArray, List.map_cons, List.map_nil]); first | done | rfl | (simp only [List.length_drop, List.length_take]; rfl)) ?_; (with_reducible refine (impl_WordNormal.calls kj5 t257 t263 true _ A14.out).mono ?_); rintro e w25 ⟨rfl, hb⟩; refine ⟨_, rfl, ?_⟩; have n0_ := Aside0.mk (below_step (by repeat (first | (with_reducible first | exact HB.out | apply below_alloc | apply pw_below_drewN | apply below_drew1) | exact HB.out)) hb); clear HB; have HB := n0_; clear n0_; (try clear hb); (try clear hb2); (try clear hk); (try clear hi)) | ((with_reducible refine gate_callee (f := 27) rfl ?_); refine goesL_ (some 64) rfl rfl Tryd.func27 (by kernel_rfl) rfl #[.string t258] rfl (by (try simp only [List.map_toArray, List.map_cons, List.map_nil]); first | done | rfl | (simp only [List.length_drop, List.length_take]; rfl)) ?_; (with_reducible refine (impl_WordNormal.calls kj5 t258 t265 true _ A15.out).mono ?_); rintro e w26 ⟨rfl, hb⟩; refine ⟨_, rfl, ?_⟩; have n0_ := Aside0.mk (below_step (by repeat (first | (with_reducible first | exact HB.out | apply below_alloc | apply pw_below_drewN | apply below_drew1) | exact HB.out)) hb); clear HB; have HB := n0_; clear n0_; (try clear hb); (try clear hb2); (try clear hk); (try clear hi)) | ((with_reducible refine gate_callee (f := 23) rfl ?_); refine goesL_ (some 70) rfl rfl Tryd.func23 (by kernel_rfl) rfl #[.string t263, .string t265] rfl (by (try simp only [List.map_toArray, List.map_cons, List.map_nil]); first | done | rfl | (simp only [List.length_drop, List.length_take]; rfl)) ?_; (with_reducible refine (impl_WordJoin.calls kj5 t263 t265 t267 true _ A16.out).mono ?_); rintro e w27 ⟨rfl, hb⟩; refine ⟨_, rfl, ?_⟩; have n0_ := Aside0.mk (below_step (by repeat (first | (with_reducible first | exact HB.out | apply below_alloc | apply pw_below_drewN | apply below_drew1) | exact HB.out)) hb); clear HB; have HB := n0_; clear n0_; (try clear hb); (try clear hb2); (try clear hk); (try clear hi)) | ((with_reducible refine gate_callee (f := 23) rfl ?_); refine goesL_ (some 75) rfl rfl Tryd.func23 (by kernel_rfl) rfl #[.string t257, .string (⟨#[97, 65]⟩ : ByteArray)] rfl (by (try simp only [List.map_toArray, List.map_cons, List.map_nil]); first | done | rfl | (simp only [List.length_drop, List.length_take]; rfl)) ?_; (with_reducible refine (impl_WordJoin.calls kj5 t257 (⟨#[97, 65]⟩ : ByteArray) t269 true _ A17.out).mono ?_); rintro e w28 ⟨rfl, hb⟩; refine ⟨_, rfl, ?_⟩; have n0_ := Aside0.mk (below_step (by repeat (first | (with_reducible first | exact HB.out | apply below_alloc | apply pw_below_drewN | apply below_drew1) | exact HB.out)) hb); clear HB; have HB := n0_; clear n0_; (try clear hb); (try clear hb2); (try clear hk); (try clear hi)) | (go_at_call 15; (with_reducible refine (impl_WordSame.calls kj5 t267 t259 true _ A21.out).mono ?_); rintro e w29 ⟨rfl, hb⟩; have n0_ := Aside0.mk (below_step (by repeat (first | (with_reducible first | exact HB.out | apply below_alloc | apply pw_below_drewN | apply below_drew1) | exact HB.out)) hb); clear HB; have HB := n0_; clear n0_; (try clear hb); (try clear hb2); (try clear hk); (try clear hi)) | (go_at_call 15; (with_reducible refine (impl_WordSame.calls kj5 t269 t257 t272 _ A24.out).mono ?_); rintro e w30 ⟨rfl, hb⟩; have n0_ := Aside0.mk (below_step (by repeat (first | (with_reducible first | exact HB.out | apply below_alloc | apply pw_below_drewN | apply below_drew1) | exact HB.out)) hb); clear HB; have HB := n0_; clear n0_; (try clear hb); (try clear hb2); (try clear hk); (try clear hi)))
          go_ret
          exact ⟨by first | rfl | (simp [errW_none, errW_some] <;> rfl) | (simp [*, errW_none, errW_some] <;> rfl), by repeat (first | (with_reducible first | exact HB.out | apply below_alloc | apply pw_below_drewN | apply below_drew1) | exact HB.out)⟩
         ·replace c23 := Bool.eq_false_iff.mpr c23
          subst c23
          have H1 : (some true) = some r := by rw [if_neg (show ¬ (false = true) by decide)] at H; exact H
          clear H
          have H := H1
          clear H1
          obtain rfl := Option.some.inj H
          go_wp2_with (first | ((with_reducible refine gate_callee (f := 27) rfl ?_); refine goesL_ (some 59) rfl rfl Tryd.func27 (by kernel_rfl) rfl #[.string t257] rfl (by (try simp only [List.map_toArray, List.map_cons, List.map_nil]); first | done | rfl | (simp only [List.length_drop, List.length_take]; rfl)) ?_; (with_reducible refine (impl_WordNormal.calls kj5 t257 t263 true _ A14.out).mono ?_); rintro e w31 ⟨rfl, hb⟩; refine ⟨_, rfl, ?_⟩; have n0_ := Aside0.mk (below_step (by repeat (first | (with_reducible first | exact HB.out | apply below_alloc | apply pw_below_drewN | apply below_drew1) | exact HB.out)) hb); clear HB; have HB := n0_; clear n0_; (try clear hb); (try clear hb2); (try clear hk); (try clear hi)) | ((with_reducible refine gate_callee (f := 27) rfl ?_); refine goesL_ (some 64) rfl rfl Tryd.func27 (by kernel_rfl) rfl #[.string t258] rfl (by (try simp only [List.map_toArray, List.map_cons, List.map_nil]); first | done | rfl | (simp only [List.length_drop, List.length_take]; rfl)) ?_; (with_reducible refine (impl_WordNormal.calls kj5 t258 t265 true _ A15.out).mono ?_); rintro e w32 ⟨rfl, hb⟩; refine ⟨_, rfl, ?_⟩; have n0_ := Aside0.mk (below_step (by repeat (first | (with_reducible first | exact HB.out | apply below_alloc | apply pw_below_drewN | apply below_drew1) | exact HB.out)) hb); clear HB; have HB := n0_; clear n0_; (try clear hb); (try clear hb2); (try clear hk); (try clear hi)) | ((with_reducible refine gate_callee (f := 23) rfl ?_); refine goesL_ (some 70) rfl rfl Tryd.func23 (by kernel_rfl) rfl #[.string t263, .string t265] rfl (by (try simp only [List.map_toArray, List.map_cons, List.map_nil]); first | done | rfl | (simp only [List.length_drop, List.length_take]; rfl)) ?_; (with_reducible refine (impl_WordJoin.calls kj5 t263 t265 t267 true _ A16.out).mono ?_); rintro e w33 ⟨rfl, hb⟩; refine ⟨_, rfl, ?_⟩; have n0_ := Aside0.mk (below_step (by repeat (first | (with_reducible first | exact HB.out | apply below_alloc | apply pw_below_drewN | apply below_drew1) | exact HB.out)) hb); clear HB; have HB := n0_; clear n0_; (try clear hb); (try clear hb2); (try clear hk); (try clear hi)) | ((with_reducible refine gate_callee (f := 23) rfl ?_); refine goesL_ (some 75) rfl rfl Tryd.func23 (by kernel_rfl) rfl #[.string t257, .string (⟨#[97, 65]⟩ : ByteArray)] rfl (by (try simp only [List.map_toArray, List.map_cons, List.map_nil]); first | done | rfl | (simp only [List.length_drop, List.length_take]; rfl)) ?_; (with_reducible refine (impl_WordJoin.calls kj5 t257 (⟨#[97, 65]⟩ : ByteArray) t269 false _ A17.out).mono ?_); rintro e w34 ⟨rfl, hb⟩; refine ⟨_, rfl, ?_⟩; have n0_ := Aside0.mk (below_step (by repeat (first | (with_reducible first | exact HB.out | apply below_alloc | apply pw_below_drewN | apply below_drew1) | exact HB.out)) hb); clear HB; have HB := n0_; clear n0_; (try clear hb); (try clear hb2); (try clear hk); (try clear hi)) | (go_at_call 15; (with_reducible refine (impl_WordSame.calls kj5 t267 t259 true _ A21.out).mono ?_); rintro e w35 ⟨rfl, hb⟩; have n0_ := Aside0.mk (below_step (by repeat (first | (with_reducible first | exact HB.out | apply below_alloc | apply pw_below_drewN | apply below_drew1) | exact HB.out)) hb); clear HB; have HB := n0_; clear n0_; (try clear hb); (try clear hb2); (try clear hk); (try clear hi)))
          go_ret
          exact ⟨by first | rfl | (simp [errW_none, errW_some] <;> rfl) | (simp [*, errW_none, errW_some] <;> rfl), by repeat (first | (with_reducible first | exact HB.out | apply below_alloc | apply pw_below_drewN | apply below_drew1) | exact HB.out)⟩
        ·replace c22 := Bool.eq_false_iff.mpr c22
         subst c22
         have H1 : (some false) = some r := by rw [if_neg (show ¬ (false = true) by decide)] at H; exact H
         clear H
         have H := H1
         clear H1
         obtain rfl := Option.some.inj H
         go_wp2_with (first | ((with_reducible refine gate_callee (f := 27) rfl ?_); refine goesL_ (some 59) rfl rfl Tryd.func27 (by kernel_rfl) rfl #[.string t257] rfl (by (try simp only [List.map_toArray, List.map_cons, List.map_nil]); first | done | rfl | (simp only [List.length_drop, List.length_take]; rfl)) ?_; (with_reducible refine (impl_WordNormal.calls kj5 t257 t263 true _ A14.out).mono ?_); rintro e w36 ⟨rfl, hb⟩; refine ⟨_, rfl, ?_⟩; have n0_ := Aside0.mk (below_step (by repeat (first | (with_reducible first | exact HB.out | apply below_alloc | apply pw_below_drewN | apply below_drew1) | exact HB.out)) hb); clear HB; have HB := n0_; clear n0_; (try clear hb); (try clear hb2); (try clear hk); (try clear hi)) | ((with_reducible refine gate_callee (f := 27) rfl ?_); refine goesL_ (some 64) rfl rfl Tryd.func27 (by kernel_rfl) rfl #[.string t258] rfl (by (try simp only [List.map_toArray, List.map_cons, List.map_nil]); first | done | rfl | (simp only [List.length_drop, List.length_take]; rfl)) ?_; (with_reducible refine (impl_WordNormal.calls kj5 t258 t265 true _ A15.out).mono ?_); rintro e w37 ⟨rfl, hb⟩; refine ⟨_, rfl, ?_⟩; have n0_ := Aside0.mk (below_step (by repeat (first | (with_reducible first | exact HB.out | apply below_alloc | apply pw_below_drewN | apply below_drew1) | exact HB.out)) hb); clear HB; have HB := n0_; clear n0_; (try clear hb); (try clear hb2); (try clear hk); (try clear hi)) | ((with_reducible refine gate_callee (f := 23) rfl ?_); refine goesL_ (some 70) rfl rfl Tryd.func23 (by kernel_rfl) rfl #[.string t263, .string t265] rfl (by (try simp only [List.map_toArray, List.map_cons, List.map_nil]); first | done | rfl | (simp only [List.length_drop, List.length_take]; rfl)) ?_; (with_reducible refine (impl_WordJoin.calls kj5 t263 t265 t267 true _ A16.out).mono ?_); rintro e w38 ⟨rfl, hb⟩; refine ⟨_, rfl, ?_⟩; have n0_ := Aside0.mk (below_step (by repeat (first | (with_reducible first | exact HB.out | apply below_alloc | apply pw_below_drewN | apply below_drew1) | exact HB.out)) hb); clear HB; have HB := n0_; clear n0_; (try clear hb); (try clear hb2); (try clear hk); (try clear hi)) | ((with_reducible refine gate_callee (f := 23) rfl ?_); refine goesL_ (some 75) rfl rfl Tryd.func23 (by kernel_rfl) rfl #[.string t257, .string (⟨#[97, 65]⟩ : ByteArray)] rfl (by (try simp only [List.map_toArray, List.map_cons, List.map_nil]); first | done | rfl | (simp only [List.length_drop, List.length_take]; rfl)) ?_; (with_reducible refine (impl_WordJoin.calls kj5 t257 (⟨#[97, 65]⟩ : ByteArray) t269 t270 _ A17.out).mono ?_); rintro e w39 ⟨rfl, hb⟩; refine ⟨_, rfl, ?_⟩; have n0_ := Aside0.mk (below_step (by repeat (first | (with_reducible first | exact HB.out | apply below_alloc | apply pw_below_drewN | apply below_drew1) | exact HB.out)) hb); clear HB; have HB := n0_; clear n0_; (try clear hb); (try clear hb2); (try clear hk); (try clear hi)) | (go_at_call 15; (with_reducible refine (impl_WordSame.calls kj5 t267 t259 false _ A21.out).mono ?_); rintro e w40 ⟨rfl, hb⟩; have n0_ := Aside0.mk (below_step (by repeat (first | (with_reducible first | exact HB.out | apply below_alloc | apply pw_below_drewN | apply below_drew1) | exact HB.out)) hb); clear HB; have HB := n0_; clear n0_; (try clear hb); (try clear hb2); (try clear hk); (try clear hi)))
         go_ret
         exact ⟨by first | rfl | (simp [errW_none, errW_some] <;> rfl) | (simp [*, errW_none, errW_some] <;> rfl), by repeat (first | (with_reducible first | exact HB.out | apply below_alloc | apply pw_below_drewN | apply below_drew1) | exact HB.out)⟩
       ·replace c20 := Bool.eq_false_iff.mpr c20
        subst c20
        have H1 : (if t270 = true then ((impl_WordSame.f kj5 t269 t257).bind fun t273 => (some t273)) else (some true)) = some r := by rw [if_neg (show ¬ (false = true) by decide)] at H; exact H
        clear H
        have H := H1
        clear H1
        by_cases c41 : t270 = true
        ·subst c41
         have H1 : ((impl_WordSame.f kj5 t269 t257).bind fun t273 => (some t273)) = some r := by rw [if_pos rfl] at H; exact H
         clear H
         have H := H1
         clear H1
         replace H := Option.bind_eq_some_iff.mp H
         obtain ⟨t273, A420, H⟩ := H
         replace H : (some t273) = some r := H
         have A42 := Aside0.mk A420
         clear A420
         obtain rfl := Option.some.inj H
         go_wp2_with (first | ((with_reducible refine gate_callee (f := 27) rfl ?_); refine goesL_ (some 59) rfl rfl Tryd.func27 (by kernel_rfl) rfl #[.string t257] rfl (by (try simp only [List.map_toArray, List.map_cons, List.map_nil]); first | done | rfl | (simp only [List.length_drop, List.length_take]; rfl)) ?_; (with_reducible refine (impl_WordNormal.calls kj5 t257 t263 true _ A14.out).mono ?_); rintro e w43 ⟨rfl, hb⟩; refine ⟨_, rfl, ?_⟩; have n0_ := Aside0.mk (below_step (by repeat (first | (with_reducible first | exact HB.out | apply below_alloc | apply pw_below_drewN | apply below_drew1) | exact HB.out)) hb); clear HB; have HB := n0_; clear n0_; (try clear hb); (try clear hb2); (try clear hk); (try clear hi)) | ((with_reducible refine gate_callee (f := 27) rfl ?_); refine goesL_ (some 64) rfl rfl Tryd.func27 (by kernel_rfl) rfl #[.string t258] rfl (by (try simp only [List.map_toArray, List.map_cons, List.map_nil]); first | done | rfl | (simp only [List.length_drop, List.length_take]; rfl)) ?_; (with_reducible refine (impl_WordNormal.calls kj5 t258 t265 true _ A15.out).mono ?_); rintro e w44 ⟨rfl, hb⟩; refine ⟨_, rfl, ?_⟩; have n0_ := Aside0.mk (below_step (by repeat (first | (with_reducible first | exact HB.out | apply below_alloc | apply pw_below_drewN | apply below_drew1) | exact HB.out)) hb); clear HB; have HB := n0_; clear n0_; (try clear hb); (try clear hb2); (try clear hk); (try clear hi)) | ((with_reducible refine gate_callee (f := 23) rfl ?_); refine goesL_ (some 70) rfl rfl Tryd.func23 (by kernel_rfl) rfl #[.string t263, .string t265] rfl (by (try simp only [List.map_toArray, List.map_cons, List.map_nil]); first | done | rfl | (simp only [List.length_drop, List.length_take]; rfl)) ?_; (with_reducible refine (impl_WordJoin.calls kj5 t263 t265 t267 false _ A16.out).mono ?_); rintro e w45 ⟨rfl, hb⟩; refine ⟨_, rfl, ?_⟩; have n0_ := Aside0.mk (below_step (by repeat (first | (with_reducible first | exact HB.out | apply below_alloc | apply pw_below_drewN | apply below_drew1) | exact HB.out)) hb); clear HB; have HB := n0_; clear n0_; (try clear hb); (try clear hb2); (try clear hk); (try clear hi)) | ((with_reducible refine gate_callee (f := 23) rfl ?_); refine goesL_ (some 75) rfl rfl Tryd.func23 (by kernel_rfl) rfl #[.string t257, .string (⟨#[97, 65]⟩ : ByteArray)] rfl (by (try simp only [List.map_toArray, List.map_cons, List.map_nil]); first | done | rfl | (simp only [List.length_drop, List.length_take]; rfl)) ?_; (with_reducible refine (impl_WordJoin.calls kj5 t257 (⟨#[97, 65]⟩ : ByteArray) t269 true _ A17.out).mono ?_); rintro e w46 ⟨rfl, hb⟩; refine ⟨_, rfl, ?_⟩; have n0_ := Aside0.mk (below_step (by repeat (first | (with_reducible first | exact HB.out | apply below_alloc | apply pw_below_drewN | apply below_drew1) | exact HB.out)) hb); clear HB; have HB := n0_; clear n0_; (try clear hb); (try clear hb2); (try clear hk); (try clear hi)) | (go_at_call 15; (with_reducible refine (impl_WordSame.calls kj5 t269 t257 t273 _ A42.out).mono ?_); rintro e w47 ⟨rfl, hb⟩; have n0_ := Aside0.mk (below_step (by repeat (first | (with_reducible first | exact HB.out | apply below_alloc | apply pw_below_drewN | apply below_drew1) | exact HB.out)) hb); clear HB; have HB := n0_; clear n0_; (try clear hb); (try clear hb2); (try clear hk); (try clear hi)))
         go_ret
         exact ⟨by first | rfl | (simp [errW_none, errW_some] <;> rfl) | (simp [*, errW_none, errW_some] <;> rfl), by repeat (first | (with_reducible first | exact HB.out | apply below_alloc | apply pw_below_drewN | apply below_drew1) | exact HB.out)⟩
        ·replace c41 := Bool.eq_false_iff.mpr c41
         subst c41
         have H1 : (some true) = some r := by rw [if_neg (show ¬ (false = true) by decide)] at H; exact H
         clear H
         have H := H1
         clear H1
         obtain rfl := Option.some.inj H
         go_wp2_with (first | ((with_reducible refine gate_callee (f := 27) rfl ?_); refine goesL_ (some 59) rfl rfl Tryd.func27 (by kernel_rfl) rfl #[.string t257] rfl (by (try simp only [List.map_toArray, List.map_cons, List.map_nil]); first | done | rfl | (simp only [List.length_drop, List.length_take]; rfl)) ?_; (with_reducible refine (impl_WordNormal.calls kj5 t257 t263 true _ A14.out).mono ?_); rintro e w48 ⟨rfl, hb⟩; refine ⟨_, rfl, ?_⟩; have n0_ := Aside0.mk (below_step (by repeat (first | (with_reducible first | exact HB.out | apply below_alloc | apply pw_below_drewN | apply below_drew1) | exact HB.out)) hb); clear HB; have HB := n0_; clear n0_; (try clear hb); (try clear hb2); (try clear hk); (try clear hi)) | ((with_reducible refine gate_callee (f := 27) rfl ?_); refine goesL_ (some 64) rfl rfl Tryd.func27 (by kernel_rfl) rfl #[.string t258] rfl (by (try simp only [List.map_toArray, List.map_cons, List.map_nil]); first | done | rfl | (simp only [List.length_drop, List.length_take]; rfl)) ?_; (with_reducible refine (impl_WordNormal.calls kj5 t258 t265 true _ A15.out).mono ?_); rintro e w49 ⟨rfl, hb⟩; refine ⟨_, rfl, ?_⟩; have n0_ := Aside0.mk (below_step (by repeat (first | (with_reducible first | exact HB.out | apply below_alloc | apply pw_below_drewN | apply below_drew1) | exact HB.out)) hb); clear HB; have HB := n0_; clear n0_; (try clear hb); (try clear hb2); (try clear hk); (try clear hi)) | ((with_reducible refine gate_callee (f := 23) rfl ?_); refine goesL_ (some 70) rfl rfl Tryd.func23 (by kernel_rfl) rfl #[.string t263, .string t265] rfl (by (try simp only [List.map_toArray, List.map_cons, List.map_nil]); first | done | rfl | (simp only [List.length_drop, List.length_take]; rfl)) ?_; (with_reducible refine (impl_WordJoin.calls kj5 t263 t265 t267 false _ A16.out).mono ?_); rintro e w50 ⟨rfl, hb⟩; refine ⟨_, rfl, ?_⟩; have n0_ := Aside0.mk (below_step (by repeat (first | (with_reducible first | exact HB.out | apply below_alloc | apply pw_below_drewN | apply below_drew1) | exact HB.out)) hb); clear HB; have HB := n0_; clear n0_; (try clear hb); (try clear hb2); (try clear hk); (try clear hi)) | ((with_reducible refine gate_callee (f := 23) rfl ?_); refine goesL_ (some 75) rfl rfl Tryd.func23 (by kernel_rfl) rfl #[.string t257, .string (⟨#[97, 65]⟩ : ByteArray)] rfl (by (try simp only [List.map_toArray, List.map_cons, List.map_nil]); first | done | rfl | (simp only [List.length_drop, List.length_take]; rfl)) ?_; (with_reducible refine (impl_WordJoin.calls kj5 t257 (⟨#[97, 65]⟩ : ByteArray) t269 false _ A17.out).mono ?_); rintro e w51 ⟨rfl, hb⟩; refine ⟨_, rfl, ?_⟩; have n0_ := Aside0.mk (below_step (by repeat (first | (with_reducible first | exact HB.out | apply below_alloc | apply pw_below_drewN | apply below_drew1) | exact HB.out)) hb); clear HB; have HB := n0_; clear n0_; (try clear hb); (try clear hb2); (try clear hk); (try clear hi)))
         go_ret
         exact ⟨by first | rfl | (simp [errW_none, errW_some] <;> rfl) | (simp [*, errW_none, errW_some] <;> rfl), by repeat (first | (with_reducible first | exact HB.out | apply below_alloc | apply pw_below_drewN | apply below_drew1) | exact HB.out)⟩
      ·replace c19 := Bool.eq_false_iff.mpr c19
       subst c19
       have H1 : (some false) = some r := by rw [if_neg (show ¬ (false = true) by decide)] at H; exact H
       clear H
       have H := H1
       clear H1
       obtain rfl := Option.some.inj H
       go_wp2_with (first | ((with_reducible refine gate_callee (f := 27) rfl ?_); refine goesL_ (some 59) rfl rfl Tryd.func27 (by kernel_rfl) rfl #[.string t257] rfl (by (try simp only [List.map_toArray, List.map_cons, List.map_nil]); first | done | rfl | (simp only [List.length_drop, List.length_take]; rfl)) ?_; (with_reducible refine (impl_WordNormal.calls kj5 t257 t263 true _ A14.out).mono ?_); rintro e w52 ⟨rfl, hb⟩; refine ⟨_, rfl, ?_⟩; have n0_ := Aside0.mk (below_step (by repeat (first | (with_reducible first | exact HB.out | apply below_alloc | apply pw_below_drewN | apply below_drew1) | exact HB.out)) hb); clear HB; have HB := n0_; clear n0_; (try clear hb); (try clear hb2); (try clear hk); (try clear hi)) | ((with_reducible refine gate_callee (f := 27) rfl ?_); refine goesL_ (some 64) rfl rfl Tryd.func27 (by kernel_rfl) rfl #[.string t258] rfl (by (try simp only [List.map_toArray, List.map_cons, List.map_nil]); first | done | rfl | (simp only [List.length_drop, List.length_take]; rfl)) ?_; (with_reducible refine (impl_WordNormal.calls kj5 t258 t265 false _ A15.out).mono ?_); rintro e w53 ⟨rfl, hb⟩; refine ⟨_, rfl, ?_⟩; have n0_ := Aside0.mk (below_step (by repeat (first | (with_reducible first | exact HB.out | apply below_alloc | apply pw_below_drewN | apply below_drew1) | exact HB.out)) hb); clear HB; have HB := n0_; clear n0_; (try clear hb); (try clear hb2); (try clear hk); (try clear hi)) | ((with_reducible refine gate_callee (f := 23) rfl ?_); refine goesL_ (some 70) rfl rfl Tryd.func23 (by kernel_rfl) rfl #[.string t263, .string t265] rfl (by (try simp only [List.map_toArray, List.map_cons, List.map_nil]); first | done | rfl | (simp only [List.length_drop, List.length_take]; rfl)) ?_; (with_reducible refine (impl_WordJoin.calls kj5 t263 t265 t267 t268 _ A16.out).mono ?_); rintro e w54 ⟨rfl, hb⟩; refine ⟨_, rfl, ?_⟩; have n0_ := Aside0.mk (below_step (by repeat (first | (with_reducible first | exact HB.out | apply below_alloc | apply pw_below_drewN | apply below_drew1) | exact HB.out)) hb); clear HB; have HB := n0_; clear n0_; (try clear hb); (try clear hb2); (try clear hk); (try clear hi)) | ((with_reducible refine gate_callee (f := 23) rfl ?_); refine goesL_ (some 75) rfl rfl Tryd.func23 (by kernel_rfl) rfl #[.string t257, .string (⟨#[97, 65]⟩ : ByteArray)] rfl (by (try simp only [List.map_toArray, List.map_cons, List.map_nil]); first | done | rfl | (simp only [List.length_drop, List.length_take]; rfl)) ?_; (with_reducible refine (impl_WordJoin.calls kj5 t257 (⟨#[97, 65]⟩ : ByteArray) t269 t270 _ A17.out).mono ?_); rintro e w55 ⟨rfl, hb⟩; refine ⟨_, rfl, ?_⟩; have n0_ := Aside0.mk (below_step (by repeat (first | (with_reducible first | exact HB.out | apply below_alloc | apply pw_below_drewN | apply below_drew1) | exact HB.out)) hb); clear HB; have HB := n0_; clear n0_; (try clear hb); (try clear hb2); (try clear hk); (try clear hi)))
       go_ret
       exact ⟨by first | rfl | (simp [errW_none, errW_some] <;> rfl) | (simp [*, errW_none, errW_some] <;> rfl), by repeat (first | (with_reducible first | exact HB.out | apply below_alloc | apply pw_below_drewN | apply below_drew1) | exact HB.out)⟩
     ·replace c18 := Bool.eq_false_iff.mpr c18
      subst c18
      have H1 : (some false) = some r := by rw [if_neg (show ¬ (false = true) by decide)] at H; exact H
      clear H
      have H := H1
      clear H1
      obtain rfl := Option.some.inj H
      go_wp2_with (first | ((with_reducible refine gate_callee (f := 27) rfl ?_); refine goesL_ (some 59) rfl rfl Tryd.func27 (by kernel_rfl) rfl #[.string t257] rfl (by (try simp only [List.map_toArray, List.map_cons, List.map_nil]); first | done | rfl | (simp only [List.length_drop, List.length_take]; rfl)) ?_; (with_reducible refine (impl_WordNormal.calls kj5 t257 t263 false _ A14.out).mono ?_); rintro e w56 ⟨rfl, hb⟩; refine ⟨_, rfl, ?_⟩; have n0_ := Aside0.mk (below_step (by repeat (first | (with_reducible first | exact HB.out | apply below_alloc | apply pw_below_drewN | apply below_drew1) | exact HB.out)) hb); clear HB; have HB := n0_; clear n0_; (try clear hb); (try clear hb2); (try clear hk); (try clear hi)) | ((with_reducible refine gate_callee (f := 27) rfl ?_); refine goesL_ (some 64) rfl rfl Tryd.func27 (by kernel_rfl) rfl #[.string t258] rfl (by (try simp only [List.map_toArray, List.map_cons, List.map_nil]); first | done | rfl | (simp only [List.length_drop, List.length_take]; rfl)) ?_; (with_reducible refine (impl_WordNormal.calls kj5 t258 t265 t266 _ A15.out).mono ?_); rintro e w57 ⟨rfl, hb⟩; refine ⟨_, rfl, ?_⟩; have n0_ := Aside0.mk (below_step (by repeat (first | (with_reducible first | exact HB.out | apply below_alloc | apply pw_below_drewN | apply below_drew1) | exact HB.out)) hb); clear HB; have HB := n0_; clear n0_; (try clear hb); (try clear hb2); (try clear hk); (try clear hi)) | ((with_reducible refine gate_callee (f := 23) rfl ?_); refine goesL_ (some 70) rfl rfl Tryd.func23 (by kernel_rfl) rfl #[.string t263, .string t265] rfl (by (try simp only [List.map_toArray, List.map_cons, List.map_nil]); first | done | rfl | (simp only [List.length_drop, List.length_take]; rfl)) ?_; (with_reducible refine (impl_WordJoin.calls kj5 t263 t265 t267 t268 _ A16.out).mono ?_); rintro e w58 ⟨rfl, hb⟩; refine ⟨_, rfl, ?_⟩; have n0_ := Aside0.mk (below_step (by repeat (first | (with_reducible first | exact HB.out | apply below_alloc | apply pw_below_drewN | apply below_drew1) | exact HB.out)) hb); clear HB; have HB := n0_; clear n0_; (try clear hb); (try clear hb2); (try clear hk); (try clear hi)) | ((with_reducible refine gate_callee (f := 23) rfl ?_); refine goesL_ (some 75) rfl rfl Tryd.func23 (by kernel_rfl) rfl #[.string t257, .string (⟨#[97, 65]⟩ : ByteArray)] rfl (by (try simp only [List.map_toArray, List.map_cons, List.map_nil]); first | done | rfl | (simp only [List.length_drop, List.length_take]; rfl)) ?_; (with_reducible refine (impl_WordJoin.calls kj5 t257 (⟨#[97, 65]⟩ : ByteArray) t269 t270 _ A17.out).mono ?_); rintro e w59 ⟨rfl, hb⟩; refine ⟨_, rfl, ?_⟩; have n0_ := Aside0.mk (below_step (by repeat (first | (with_reducible first | exact HB.out | apply below_alloc | apply pw_below_drewN | apply below_drew1) | exact HB.out)) hb); clear HB; have HB := n0_; clear n0_; (try clear hb); (try clear hb2); (try clear hk); (try clear hi)))
      go_ret
      exact ⟨by first | rfl | (simp [errW_none, errW_some] <;> rfl) | (simp [*, errW_none, errW_some] <;> rfl), by repeat (first | (with_reducible first | exact HB.out | apply below_alloc | apply pw_below_drewN | apply below_drew1) | exact HB.out)⟩

/-- THE ONE PURE STATEMENT of laws_FnJoinHandle: yours. -/
def laws_FnJoinHandle.Pure : Prop := ∀ (l0 : List Int), l0.length ≤ maxLen → l0.length * 1 ≤ 140737488351232 → (∀ x ∈ l0, (Lit.int .u8 x).wf = true) → ∃ k, laws_FnJoinHandle.f k l0 = some true
theorem laws_FnJoinHandle.walk (P : laws_FnJoinHandle.Pure) (a0 : Option Addr) (len0 cap0 : Nat) (z0 : List Int) (w : World) (w0 : (a0 = none ∧ len0 = 0 ∧ cap0 = 0 ∧ z0 = []) ∨ ∃ x, a0 = some x ∧ len0 ≤ cap0 ∧ cap0 ≤ maxLen ∧ z0.length = cap0 ∧ (∀ i, i < z0.length → w.cell? (x.add i) = some (.int .u8 (z0.getD i 0))) ∧ ∀ n ∈ z0, (Lit.int .u8 n).wf = true) (y0 : len0 * 1 ≤ 140737488351232) :
  Calls Tryd.prog 7 #[.slice a0 len0 cap0] w fun e w' => e = .returned (.bool true) ∧ Below w.heap.size w w' := by
 obtain ⟨l0, rfl, hr0, hm0, hw0, hc0⟩ := ReadsInt.ofRowC w0
 obtain ⟨k, h⟩ := P l0 hm0 y0 hw0
 refine (laws_FnJoinHandle.calls k _ _ l0 true w (Kd.C_of_reads (d := (0 : Int)) (h1 := fun _ => rfl) hr0) hc0 h).mono ?_
 rintro e w' ⟨rfl, hd⟩
 exact ⟨rfl, hd⟩

end Go.Proofs.YtpfnchjbbagmdaaDoor.PFnJoinHandle
