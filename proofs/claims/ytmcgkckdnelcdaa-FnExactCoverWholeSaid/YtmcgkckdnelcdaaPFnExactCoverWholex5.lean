-- Made by a program of this session (wip/tools) out of the loaded program; not trusted: Lean checks it.
import Derived.Test.YtmcgkckdnelcdaaPFnExactCoverWholex0
import Derived.Test.YtmcgkckdnelcdaaPFnExactCoverWholex4
namespace Go.Proofs.Ytmcgkckdnelcdaa.PFnExactCoverWhole
open Go.RowKit Go.Proofs.YtmcgkckdnelcdaaW.PrintWords Go.Proofs.YtmcgkckdnelcdaaW.PrintLast Go.Proofs.YtmcgkckdnelcdaaW.PrintMore
attribute [local go_sem] max2_int min2_int max_two min_two max_three min_three max_four min_four   -- for this text's walks alone
set_option linter.unusedVariables false
set_option linter.unusedSimpArgs false

/-! ### slices_Max_int_int: function 98 -/
def slices_Max_int_int.go (l : List Int) (m : Int) : Nat → Int
  | 0 => m
  | i + 1 => if slices_Max_int_int.go l m i < rd l (i : Int) then rd l (i : Int) else slices_Max_int_int.go l m i
/-- The greatest of the first i numbers; the first one for i = 0. -/
def slices_Max_int_int.up (l : List Int) (i : Nat) : Int := slices_Max_int_int.go l (rd l 0) i
def slices_Max_int_int.f (l0 : List Int) : Option Int := if 0 < l0.length then some (slices_Max_int_int.up l0 l0.length) else none
set_option maxHeartbeats 8000000 in
set_option maxRecDepth 100000 in
theorem slices_Max_int_int.calls (A0 : Option Addr) (c0 : Nat) (l0 : List Int) (r : Int) (w : World) (hr0 : Kd.C (Kd.int .i64) w A0 l0.length l0) (hc0 : l0.length ≤ c0) (h : slices_Max_int_int.f l0 = some r) :
    Calls Try.prog 98 #[.slice A0 l0.length c0] w fun e w' => e = .returned (.int .i64 r) ∧ Drawn0 w w' := by
  unfold slices_Max_int_int.f at h
  by_cases hl : 0 < l0.length
  · rw [if_pos hl] at h
    obtain rfl := sI h
    clear h
    have HR0 := A0_ hr0
    have HC0 := A0_ hc0
    clear hr0 hc0
    have b0 : decide (l0.length < 1) = false := dF (by omega)
    have b1 : decide ((l0.length : Int) < 1) = false := dF (by omega)
    obtain ⟨ad, e0, hx0⟩ := tI HR0.out 0 (by omega) (by omega)
    cases e0
    have hx1 : w.cell? ad = some (.int .i64 (rd l0 0)) := by cases ad; exact hx0
    clear hx0
    have p0 : (0 : Int) < (l0.length : Int) := by omega
    have HM := A0_ (show slices_Max_int_int.up l0 1 = rd l0 0 by show (if rd l0 0 < rd l0 ((0 : Nat) : Int) then rd l0 ((0 : Nat) : Int) else rd l0 0) = rd l0 0; split <;> rfl)
    have HL := A0_ hl
    go_enter Try.func98, Try.ntmps98
    go_wp2
    go_loopw [3, 4] (fun v3 v4 wr => ∃ (i : Int), v3 = .int .i64 (slices_Max_int_int.up l0 i.toNat) ∧ v4 = .int .i64 i ∧ Aside0 (1 ≤ i ∧ i ≤ (l0.length : Int)) ∧ Drawn0 w wr) (fun _ i _ => l0.length - (intOf i).toNat)
    case atStart => exact ⟨1, by rw [show (1 : Int).toNat = 1 from rfl, HM.out], rfl, ⟨by have := HL.out; omega⟩, by repeat (first | exact Drawn0.refl _ | apply Drawn0.step)⟩
    case round =>
      obtain ⟨i, rfl, rfl, HI, ⟨m, rfl⟩⟩ := hrel
      clear hx1 p0 b0 b1
      by_cases hlt : i < (l0.length : Int)
      · have hI := HI.out
        have hc : decide (i < (l0.length : Int)) = true := dT hlt
        obtain ⟨ad', e1, hx⟩ := tI HR0.out i (by omega) hlt
        cases e1
        have p : 0 ≤ i := by omega
        have HS := A0_ (show slices_Max_int_int.up l0 (i + 1).toNat = if slices_Max_int_int.up l0 i.toNat < rd l0 i then rd l0 i else slices_Max_int_int.up l0 i.toNat by
          rw [show (i + 1).toNat = i.toNat + 1 by omega]
          show (if slices_Max_int_int.up l0 i.toNat < rd l0 ((i.toNat : Nat) : Int) then rd l0 ((i.toNat : Nat) : Int) else slices_Max_int_int.up l0 i.toNat) = _
          rw [Int.toNat_of_nonneg p])
        have HT := A0_ hlt
        clear hI
        have p1 := eq_true p
        have p2 := eq_true hlt
        clear p hlt
        have HW := A0_ (show wrap64 (i + 1) = i + 1 by have := HI.out; have := HT.out; have := HR0.out.2.1; unfold wrap64; omega)
        go_wp2
        go_roundw
        case rel => exact ⟨i + 1, by rw [HS.out], by rw [HW.out], ⟨by have := HI.out; have := HT.out; omega⟩, by repeat (first | exact Drawn0.refl _ | apply Drawn0.step)⟩
        case measure => simp only [intOf, HW.out]; have := HI.out; have := HT.out; omega
      · have hc : decide (i < (l0.length : Int)) = false := dF hlt
        have HE := A0_ (show i = (l0.length : Int) by have := HI.out; omega)
        clear hlt
        go_wp2
        go_ret
        exact ⟨by rw [HE.out]; rfl, by repeat (first | exact Drawn0.refl _ | apply Drawn0.step)⟩
  · rw [if_neg hl] at h; cases h


/-! ### impl_still: function 62 -/
def impl_still.l0 : Nat → List Int → Int → Int → Option (List Int)
  | 0, _, _, _ => none
  | k + 1, x3, x8, x9 => if x9 < x8 then (if 0 ≤ x9 then (if x9 < (x3.length : Int) then (impl_still.l0 k (x3.set (x9 : Int).toNat x9) x8 (wrap64 (x9 + 1))) else (none)) else (none)) else (some x3)
def impl_still.f (k : Nat) (a0 : Int) : Option (List Int) := if 0 ≤ a0 then (if (a0 : Int).toNat ≤ 35184372088832 then ((some (List.replicate (a0 : Int).toNat 0 : List Int)).bind fun y232 => (impl_still.l0 k y232 (y232.length : Int) 0)) else (none)) else (none)
set_option maxHeartbeats 8000000 in
set_option maxRecDepth 100000 in
theorem impl_still.calls (k : Nat) (a0 : Int) (r : List Int) (w : World) (h : impl_still.f k a0 = some r) :
    Calls Try.prog 62 #[.int .i64 a0] w fun e w' => ∃ v0_ : Value, e = .returned (v0_) ∧ Kd.R (Kd.int .i64) 3 w' w.heap.size (fun _ => True) v0_ r ∧ Below w.heap.size w w' := by
 have HB := A0_ (Below.refl w.heap.size w)
 have H : (if 0 ≤ a0 then (if (a0 : Int).toNat ≤ 35184372088832 then ((some (List.replicate (a0 : Int).toNat 0 : List Int)).bind fun y232 => (impl_still.l0 k y232 (y232.length : Int) 0)) else (none)) else (none)) = some r := h
 clear h
 by_cases c2 : 0 ≤ a0
 ·rw [if_pos c2] at H
  have c2b0 := eq_true c2
  have c2b1 : decide (0 ≤ a0) = true := dT c2
  clear c2
  by_cases c3 : (a0 : Int).toNat ≤ 35184372088832
  ·rw [if_pos c3] at H
   have c3b0 := eq_true c3
   have c3b1 : decide ((a0 : Int).toNat ≤ 35184372088832) = true := dT c3
   clear c3
   obtain ⟨y232, hy232⟩ : ∃ y_ : List Int, y_ = (List.replicate (a0 : Int).toNat 0) := ⟨_, rfl⟩
   replace H : (impl_still.l0 k y232 (y232.length : Int) 0) = some r := by first | (rw [hy232]; with_reducible exact H) | (have H2_ := (Option.bind_some _ _).symm.trans H; rw [hy232]; with_reducible exact H2_) | (have H2_ := (Option.bind_some _ _).symm.trans H; with_reducible exact H2_) | with_reducible exact H | (rw [hy232]; exact H) | exact H
   have Ny232 := A0_ hy232
   clear hy232
   have H' := A0_ H
   clear H
   go_enter Try.func62, Try.ntmps62
   go_wp2_with (first | ((with_reducible refine gD (N := 6) rfl ?_); refine Kd.R_make (Kd.int .i64) _ 3 rfl (N := 6) rfl 22 _ _ rfl a0 rfl rfl Try.underlying22 (.int .i64 0) 8 info3 rfl (by decide) (by omega) 0 (ok := fun _ => True) (okp := fun _ => True) rfl (fun _ hk => hk) trivial (oD (by assumption)) (Nat.le_trans (Nat.mul_le_mul_right _ (oD (by assumption) : a0.toNat ≤ 35184372088832)) (by omega)) (Below.refl _ _) (Nat.le_refl _) ?_; intro v233 w4 ho5 hb hg_ hnew_; clear hg_ hnew_; (first | rw [← Ny232.out] at ho5 | (simp only [Int.reduceToNat] at ho5; rw [← Ny232.out] at ho5)); have n0_ := A0_ (rL ho5 (bZ (by repeat (first | (with_reducible first | exact HB.out | apply bA | apply bN | apply bD) | exact HB.out)))); have n1_ := A0_ (bT (by repeat (first | (with_reducible first | exact HB.out | apply bA | apply bN | apply bD) | exact HB.out)) hb); clear HB; have HO234 := n0_; have HB := n1_; clear n0_ n1_; clear hb ho5; obtain ⟨Ao6, co6, eo6⟩ := rS HO234.out; subst eo6))
   go_loopg [9] k (fun kq v9 w' => ∃ (x3_1 : List Int) (x9_1 : Int), v9 = .int .i64 x9_1 ∧ Aside0 (impl_still.l0 kq x3_1 (y232.length : Int) x9_1 = some r) ∧ Aside0 (kq ≤ k) ∧ Aside0 (Kd.R (Kd.int .i64) 3 w' w.heap.size (fun _ => True) (.slice Ao6 y232.length co6) x3_1) ∧ Aside0 (Below w.heap.size w w'))
   case atStart => exact ⟨(y232), (0), (by first | rfl | (simp; done) | (simp [*]; done)), H', ⟨Nat.le_refl _⟩, ⟨by (with_reducible repeat (first | apply rA | apply rN | apply rD)); exact HO234.out⟩, ⟨by repeat (first | (with_reducible first | exact HB.out | apply bA | apply bN | apply bD) | exact HB.out)⟩⟩
   case round =>
    clear H'
    try clear c2
    try clear c2b0
    try clear c2b1
    try clear p2
    try clear c3
    try clear c3b0
    try clear c3b1
    try clear c6
    obtain ⟨x3_1, x9_1, rfl, HA, HK1, HO_3, HB⟩ := hrel
    have hl3_1 := (rR HO_3.out).1
    rw [hl3_1] at HO_3
    (try simp only [hl3_1])
    cases gk with
    | zero => exact absurd HA.out (by simp [impl_still.l0])
    | succ k1 =>
     have H := HA.out
     clear HA
     simp only [impl_still.l0] at H
     by_cases c7 : x9_1 < (y232.length : Int)
     ·rw [if_pos c7] at H
      have c7b0 : decide (x9_1 < (y232.length : Int)) = true := dT c7
      (try simp only [hl3_1] at c7b0)
      clear c7
      by_cases c8 : 0 ≤ x9_1
      ·rw [if_pos c8] at H
       have c8b0 : decide (0 ≤ x9_1) = true := dT c8
       clear c8
       by_cases c9 : x9_1 < (x3_1.length : Int)
       ·rw [if_pos c9] at H
        have c9b0 : decide (x9_1 < (x3_1.length : Int)) = true := dT c9
        (try simp only [hl3_1] at c9b0)
        clear c9
        obtain ⟨y235, hy235⟩ : ∃ y_ : List Int, y_ = (x3_1.set (x9_1 : Int).toNat x9_1) := ⟨_, rfl⟩
        replace H : (impl_still.l0 k1 y235 (y232.length : Int) (wrap64 (x9_1 + 1))) = some r := by first | (rw [hy235]; with_reducible exact H) | (have H2_ := (Option.bind_some _ _).symm.trans H; rw [hy235]; with_reducible exact H2_) | (have H2_ := (Option.bind_some _ _).symm.trans H; with_reducible exact H2_) | with_reducible exact H | (rw [hy235]; exact H) | exact H
        have Ny235 := A0_ hy235
        clear hy235
        have H' := A0_ H
        clear H
        have p10 : 0 ≤ (x9_1 : Int) := oD (by assumption)
        have q10 : (x9_1 : Int) < ((x3_1.length : Int) : Int) := oD (by assumption)
        obtain ⟨go10, co10, eo10, gb10, gl10, cl10, HG10⟩ := Kd.R_form HO_3.out (by omega)
        (first | cases eo10 | (injection eo10 with ea_ en_ ec_; (first | subst ea_ | (injection ea_ with ea_; subst ea_)); subst ec_; clear en_))
        have GB10 := A0_ gb10
        have GG10 := A0_ HG10
        clear gb10 gl10 HG10
        obtain ⟨hx10_0, hf10_0⟩ := Kd.R_celln 0 HO_3.out (x9_1 : Int) p10 q10
        replace p10 := eq_true p10
        replace q10 := eq_true q10
        have HP11 := Kd.R_putg HO_3.out (x9_1 : Int) x9_1
        go_wp2_with (first | ((with_reducible refine gS (t := 3) (p := 15) rfl ?_); refine store_event (t := 3) (p := 15) (v := ?vo_w12) (w1 := (wr.setCell ⟨go10, (x9_1 : Int).toNat, none⟩ (.int .i64 x9_1))) ?hg ?ho ?hn ?hr ?_; (case ho => rfl); (case hg => rfl); (case hn => rfl); (case hr => first | (go_simp; done) | (go_simp; rfl)); intro w12 hw; have hg : wr.grownBy w12 (some go10) := (by rw [hw]; exact HP11.2); have hp_ : Kd.R (Kd.int .i64) 3 w12 w.heap.size (fun _ => True) (.slice (some ⟨go10, 0, none⟩) x3_1.length co6) y235 := (by rw [hw, Ny235.out]; exact HP11.1); clear HP11; have n0_ := A0_ (hp_); have n1_ := A0_ ((by rw [hw]; exact bS (HB.out) GB10.out : Below w.heap.size w w12)); clear HO_3; clear HB; have HO_3 := n0_; have HB := n1_; clear n0_ n1_; clear hg hw hp_))
        (try simp only [← hl3_1])
        go_roundg k1
        case measure => have := HK1.out; omega
        case rel => exact ⟨(y235), (wrap64 (x9_1 + 1)), (by first | rfl | (simp; done) | (simp [*]; done)), H', ⟨by have := HK1.out; omega⟩, ⟨by (try simp only [hl3_1]); (with_reducible repeat (first | apply rA | apply rN | apply rD)); exact HO_3.out⟩, ⟨by repeat (first | (with_reducible first | exact HB.out | apply bA | apply bN | apply bD) | exact HB.out)⟩⟩
       ·rw [if_neg c9] at H
        exact absurd H (by simp)
      ·rw [if_neg c8] at H
       exact absurd H (by simp)
     ·rw [if_neg c7] at H
      have c7b0 : decide (x9_1 < (y232.length : Int)) = false := dF c7
      (try simp only [hl3_1] at c7b0)
      clear c7
      obtain rfl := sI H
      go_wp2
      go_ret
      exact ⟨_, by first | rfl | (simp [*] <;> rfl), by (with_reducible repeat (first | apply rA | apply rN | apply rD)); exact HO_3.out, by repeat (first | (with_reducible first | exact HB.out | apply bA | apply bN | apply bD) | exact HB.out)⟩
  ·rw [if_neg c3] at H
   exact absurd H (by simp)
 ·rw [if_neg c2] at H
  exact absurd H (by simp)

/-! ### impl_orbits: function 99 -/
mutual
def impl_orbits.l0 : Nat → List (List Int) → List Int → Bool → Option (List Int)
  | 0, _, _, _ => none
  | k + 1, x0, x3, x4 => if x4 = true then (impl_orbits.l1 k x0 x3 false x0 (x0.length : Int) 0) else (some x3)
def impl_orbits.l1 : Nat → List (List Int) → List Int → Bool → List (List Int) → Int → Int → Option (List Int)
  | 0, _, _, _, _, _, _ => none
  | k + 1, x0, x3, x4, x16, x17, x18 => if x18 < x17 then (if 0 ≤ x18 then (if x18 < (x16.length : Int) then (impl_orbits.l2 k x0 x3 x4 x16 x17 x18 (rd_L1 x16 x18) ((rd_L1 x16 x18).length : Int) 0) else (none)) else (none)) else (impl_orbits.l0 k x0 x3 x4)
def impl_orbits.l2 : Nat → List (List Int) → List Int → Bool → List (List Int) → Int → Int → List Int → Int → Int → Option (List Int)
  | 0, _, _, _, _, _, _, _, _, _ => none
  | k + 1, x0, x3, x4, x16, x17, x18, x22, x23, x24 => if x24 < x23 then (if 0 ≤ x24 then (if x24 < (x22.length : Int) then (if x24 < (x3.length : Int) then (if 0 ≤ (rd x22 x24) then (if (rd x22 x24) < (x3.length : Int) then (if (rd x3 x24) = (mn (rd x3 x24) (rd x3 (rd x22 x24))) then (if (rd x3 (rd x22 x24)) = (mn (rd x3 x24) (rd x3 (rd x22 x24))) then (impl_orbits.l2 k x0 x3 x4 x16 x17 x18 x22 x23 (wrap64 (x24 + 1))) else (impl_orbits.l2 k x0 ((x3.set (x24 : Int).toNat (mn (rd x3 x24) (rd x3 (rd x22 x24)))).set ((rd x22 x24) : Int).toNat (mn (rd x3 x24) (rd x3 (rd x22 x24)))) true x16 x17 x18 x22 x23 (wrap64 (x24 + 1)))) else (impl_orbits.l2 k x0 ((x3.set (x24 : Int).toNat (mn (rd x3 x24) (rd x3 (rd x22 x24)))).set ((rd x22 x24) : Int).toNat (mn (rd x3 x24) (rd x3 (rd x22 x24)))) true x16 x17 x18 x22 x23 (wrap64 (x24 + 1)))) else (none)) else (none)) else (none)) else (none)) else (none)) else (impl_orbits.l1 k x0 x3 x4 x16 x17 (wrap64 (x18 + 1)))
end
def impl_orbits.f (k : Nat) (l0 : List (List Int)) : Option (List Int) := if 0 < (l0.length : Int) then ((impl_still.f k ((rd_L1 l0 0).length : Int)).bind fun t237 => (impl_orbits.l0 k l0 t237 true)) else (none)
set_option maxHeartbeats 8000000 in
set_option maxRecDepth 100000 in
theorem impl_orbits.calls (k : Nat) (A0 : Option Addr) (c0 : Nat) (l0 : List (List Int)) (r : List Int) (w : World) (hr0 : Kd.C (Kd.slice 3 (Kd.int .i64)) w A0 l0.length l0) (hc0 : l0.length ≤ c0) (h : impl_orbits.f k l0 = some r) :
    Calls Try.prog 99 #[.slice A0 l0.length c0] w fun e w' => ∃ v0_ : Value, e = .returned (v0_) ∧ Kd.R (Kd.int .i64) 3 w' w.heap.size (fun _ => True) v0_ r ∧ Below w.heap.size w w' := by
 have HR0 := A0_ hr0
 have HC0 := A0_ hc0
 clear hr0 hc0
 have HB := A0_ (Below.refl w.heap.size w)
 have H : (if 0 < (l0.length : Int) then ((impl_still.f k ((rd_L1 l0 0).length : Int)).bind fun t237 => (impl_orbits.l0 k l0 t237 true)) else (none)) = some r := h
 clear h
 by_cases c2 : 0 < (l0.length : Int)
 ·rw [if_pos c2] at H
  have c2b0 : decide (0 < (l0.length : Int)) = true := dT c2
  have c2b1 : decide (0 < l0.length) = true := dT (by omega)
  clear c2
  replace H := Option.bind_eq_some_iff.mp H
  obtain ⟨t237, A30, H⟩ := H
  replace H : (impl_orbits.l0 k l0 t237 true) = some r := H
  have A3 := A0_ A30
  clear A30
  have H' := A0_ H
  clear H
  have p236 : 0 ≤ (0 : Int) := (by omega)
  have q236 : 0 < (l0.length : Int) := oD (by assumption)
  obtain ⟨ad236, A236_0, c236_0, e236, hx236_0, hl236_0, hi236_0⟩ := at_L1 HR0.out 0 p236 q236
  cases e236
  have qi236 : (0 < l0.length) = True := eq_true (by omega)
  (try rw [show ((0 : Int)).toNat = 0 from rfl] at hx236_0)
  (try rw [Addr.add_zero'] at hx236_0)
  have HR236_0 := A0_ hi236_0
  have HC236_0 := A0_ hl236_0
  clear hi236_0 hl236_0
  replace p236 := eq_true p236
  replace q236 := eq_true q236
  go_enter Try.func99, Try.ntmps99
  go_wp2_with (first | (go_at_call 62; (with_reducible refine (impl_still.calls k ((rd_L1 l0 0).length : Int) t237 _ A3.out).mono ?_); rintro e w4 ⟨v238, rfl, ho0, hb⟩; have n0_ := A0_ (rL ho0 (bZ (by repeat (first | (with_reducible first | exact HB.out | apply bA | apply bN | apply bD) | exact HB.out)))); have n1_ := A0_ (bT (by repeat (first | (with_reducible first | exact HB.out | apply bA | apply bN | apply bD) | exact HB.out)) hb); clear HB; have HO239 := n0_; have HB := n1_; clear n0_ n1_; (try clear hb); (try clear hb2); (try clear hk); (try clear hi); (try clear ho0)))
  repeat (go_quiet (first | (go_at_call 62; (with_reducible refine (impl_still.calls k ((rd_L1 l0 0).length : Int) t237 _ A3.out).mono ?_); rintro e w4 ⟨v238, rfl, ho0, hb⟩; have n0_ := A0_ (rL ho0 (bZ (by repeat (first | (with_reducible first | exact HB.out | apply bA | apply bN | apply bD) | exact HB.out)))); have n1_ := A0_ (bT (by repeat (first | (with_reducible first | exact HB.out | apply bA | apply bN | apply bD) | exact HB.out)) hb); clear HB; have HO239 := n0_; have HB := n1_; clear n0_ n1_; (try clear hb); (try clear hb2); (try clear hk); (try clear hi); (try clear ho0))); try go_wp2_with (first | (go_at_call 62; (with_reducible refine (impl_still.calls k ((rd_L1 l0 0).length : Int) t237 _ A3.out).mono ?_); rintro e w4 ⟨v238, rfl, ho0, hb⟩; have n0_ := A0_ (rL ho0 (bZ (by repeat (first | (with_reducible first | exact HB.out | apply bA | apply bN | apply bD) | exact HB.out)))); have n1_ := A0_ (bT (by repeat (first | (with_reducible first | exact HB.out | apply bA | apply bN | apply bD) | exact HB.out)) hb); clear HB; have HO239 := n0_; have HB := n1_; clear n0_ n1_; (try clear hb); (try clear hb2); (try clear hk); (try clear hi); (try clear ho0))))
  go_loopg [4] k (fun kq v4 w' => ∃ (x3_1 : List Int) (x4_1 : Bool), v4 = .bool x4_1 ∧ Aside0 (impl_orbits.l0 kq l0 x3_1 x4_1 = some r) ∧ Aside0 (kq ≤ k) ∧ Aside0 (Kd.R (Kd.int .i64) 3 w' w.heap.size (fun _ => True) v238 x3_1) ∧ Aside0 (Below w.heap.size w w'))
  case atStart => exact ⟨(t237), (true), (by first | rfl | (simp; done) | (simp [*]; done)), H', ⟨Nat.le_refl _⟩, ⟨by (with_reducible repeat (first | apply rA | apply rN | apply rD)); exact HO239.out⟩, ⟨by repeat (first | (with_reducible first | exact HB.out | apply bA | apply bN | apply bD) | exact HB.out)⟩⟩
  case round =>
   clear H'
   try clear c2
   try clear c2b0
   try clear c2b1
   try clear p2
   try clear q2
   try clear hx2
   try clear qi2
   try clear hx236_0
   try clear p236
   try clear q236
   obtain ⟨x3_1, x4_1, rfl, HA, HK1, HO_3, HB⟩ := hrel
   cases gk with
   | zero => exact absurd HA.out (by simp [impl_orbits.l0])
   | succ k1 =>
    have H := HA.out
    clear HA
    simp only [impl_orbits.l0] at H
    by_cases c5 : x4_1 = true
    ·subst c5
     have H1 : (impl_orbits.l1 k1 l0 x3_1 false l0 (l0.length : Int) 0) = some r := by rw [if_pos rfl] at H; exact H
     clear H
     have H := H1
     clear H1
     have H' := A0_ H
     clear H
     go_wp2
     repeat (go_quiet (fail); try go_wp2)
     go_loopg [4, 18] k1 (fun kq v4 v18 w' => ∃ (x3_2 : List Int) (x4_2 : Bool) (x18_2 : Int), v4 = .bool x4_2 ∧ v18 = .int .i64 x18_2 ∧ Aside0 (impl_orbits.l1 kq l0 x3_2 x4_2 l0 (l0.length : Int) x18_2 = some r) ∧ Aside0 (kq ≤ k1) ∧ Aside0 (Kd.R (Kd.int .i64) 3 w' w.heap.size (fun _ => True) v238 x3_2) ∧ Aside0 (Below w.heap.size w w'))
     case atStart => exact ⟨(x3_1), (false), (0), (by first | rfl | (simp; done) | (simp [*]; done)), (by first | rfl | (simp; done) | (simp [*]; done)), H', ⟨Nat.le_refl _⟩, ⟨by (with_reducible repeat (first | apply rA | apply rN | apply rD)); exact HO_3.out⟩, ⟨by repeat (first | (with_reducible first | exact HB.out | apply bA | apply bN | apply bD) | exact HB.out)⟩⟩
     case round =>
      clear H'
      try clear c2
      try clear c2b0
      try clear c2b1
      try clear p2
      try clear q2
      try clear hx2
      try clear qi2
      try clear c5
      try clear hx236_0
      try clear p2
      try clear p236
      try clear q2
      try clear q236
      obtain ⟨x3_2, x4_2, x18_2, rfl, rfl, HA, HK2, HO_3, HB⟩ := hrel
      cases gk with
      | zero => exact absurd HA.out (by simp [impl_orbits.l1])
      | succ k2 =>
       have H := HA.out
       clear HA
       simp only [impl_orbits.l1] at H
       by_cases c6 : x18_2 < (l0.length : Int)
       ·rw [if_pos c6] at H
        have c6b0 : decide (x18_2 < (l0.length : Int)) = true := dT c6
        clear c6
        by_cases c7 : 0 ≤ x18_2
        ·rw [if_pos c7] at H
         have c7b0 : decide (0 ≤ x18_2) = true := dT c7
         clear c7
         by_cases c8 : x18_2 < (l0.length : Int)
         ·rw [if_pos c8] at H
          have c8b0 : decide (x18_2 < (l0.length : Int)) = true := dT c8
          clear c8
          have H' := A0_ H
          clear H
          have p240 : 0 ≤ (x18_2 : Int) := oD (by assumption)
          have q240 : x18_2 < (l0.length : Int) := oD (by assumption)
          obtain ⟨ad240, A240_0, c240_0, e240, hx240_0, hl240_0, hi240_0⟩ := at_L1 HR0.out x18_2 p240 q240
          obtain rfl : ad236 = ad240 := (by injection e240)
          replace hx240_0 := (HB.out.cell (wL w _ hx240_0)).trans hx240_0
          have HR240_0 := A0_ hi240_0
          have HC240_0 := A0_ hl240_0
          clear hi240_0 hl240_0
          replace p240 := eq_true p240
          replace q240 := eq_true q240
          go_wp2
          repeat (go_quiet (fail); try go_wp2)
          go_loopg [4, 24] k2 (fun kq v4 v24 w' => ∃ (x3_3 : List Int) (x4_3 : Bool) (x24_3 : Int), v4 = .bool x4_3 ∧ v24 = .int .i64 x24_3 ∧ Aside0 (impl_orbits.l2 kq l0 x3_3 x4_3 l0 (l0.length : Int) x18_2 (rd_L1 l0 x18_2) ((rd_L1 l0 x18_2).length : Int) x24_3 = some r) ∧ Aside0 (kq ≤ k2) ∧ Aside0 (Kd.R (Kd.int .i64) 3 w' w.heap.size (fun _ => True) v238 x3_3) ∧ Aside0 (Below w.heap.size w w'))
          case atStart => exact ⟨(x3_2), (x4_2), (0), (by first | rfl | (simp; done) | (simp [*]; done)), (by first | rfl | (simp; done) | (simp [*]; done)), H', ⟨Nat.le_refl _⟩, ⟨by (with_reducible repeat (first | apply rA | apply rN | apply rD)); exact HO_3.out⟩, ⟨by repeat (first | (with_reducible first | exact HB.out | apply bA | apply bN | apply bD) | exact HB.out)⟩⟩
          case round =>
           clear H'
           try clear c2
           try clear c2b0
           try clear c2b1
           try clear p2
           try clear q2
           try clear hx2
           try clear qi2
           try clear c5
           try clear c6
           try clear c6b0
           try clear c7
           try clear c7b0
           try clear c8
           try clear c8b0
           try clear hx236_0
           try clear hx240_0
           try clear p2
           try clear p236
           try clear p240
           try clear q2
           try clear q236
           try clear q240
           obtain ⟨x3_3, x4_3, x24_3, rfl, rfl, HA, HK3, HO_3, HB⟩ := hrel
           cases gk with
           | zero => exact absurd HA.out (by simp [impl_orbits.l2])
           | succ k3 =>
            have H := HA.out
            clear HA
            simp only [impl_orbits.l2] at H
            by_cases c9 : x24_3 < ((rd_L1 l0 x18_2).length : Int)
            ·rw [if_pos c9] at H
             have c9b0 : decide (x24_3 < ((rd_L1 l0 x18_2).length : Int)) = true := dT c9
             clear c9
             by_cases c10 : 0 ≤ x24_3
             ·rw [if_pos c10] at H
              have c10b0 : decide (0 ≤ x24_3) = true := dT c10
              clear c10
              by_cases c11 : x24_3 < ((rd_L1 l0 x18_2).length : Int)
              ·rw [if_pos c11] at H
               have c11b0 : decide (x24_3 < ((rd_L1 l0 x18_2).length : Int)) = true := dT c11
               clear c11
               by_cases c12 : x24_3 < (x3_3.length : Int)
               ·rw [if_pos c12] at H
                have c12b0 : decide (x24_3 < (x3_3.length : Int)) = true := dT c12
                clear c12
                by_cases c13 : 0 ≤ (rd (rd_L1 l0 x18_2) x24_3)
                ·rw [if_pos c13] at H
                 have c13b0 : decide (0 ≤ (rd (rd_L1 l0 x18_2) x24_3)) = true := dT c13
                 clear c13
                 by_cases c14 : (rd (rd_L1 l0 x18_2) x24_3) < (x3_3.length : Int)
                 ·rw [if_pos c14] at H
                  have c14b0 : decide ((rd (rd_L1 l0 x18_2) x24_3) < (x3_3.length : Int)) = true := dT c14
                  clear c14
                  obtain ⟨ji15, hji15⟩ : ∃ j_ : Int, (mn (rd x3_3 x24_3) (rd x3_3 (rd (rd_L1 l0 x18_2) x24_3))) = j_ := ⟨_, rfl⟩
                  replace H : (if (rd x3_3 x24_3) = (ji15) then (if (rd x3_3 (rd (rd_L1 l0 x18_2) x24_3)) = (ji15) then (impl_orbits.l2 k3 l0 x3_3 x4_3 l0 (l0.length : Int) x18_2 (rd_L1 l0 x18_2) ((rd_L1 l0 x18_2).length : Int) (wrap64 (x24_3 + 1))) else (impl_orbits.l2 k3 l0 ((x3_3.set (x24_3 : Int).toNat (ji15)).set ((rd (rd_L1 l0 x18_2) x24_3) : Int).toNat (ji15)) true l0 (l0.length : Int) x18_2 (rd_L1 l0 x18_2) ((rd_L1 l0 x18_2).length : Int) (wrap64 (x24_3 + 1)))) else (impl_orbits.l2 k3 l0 ((x3_3.set (x24_3 : Int).toNat (ji15)).set ((rd (rd_L1 l0 x18_2) x24_3) : Int).toNat (ji15)) true l0 (l0.length : Int) x18_2 (rd_L1 l0 x18_2) ((rd_L1 l0 x18_2).length : Int) (wrap64 (x24_3 + 1)))) = some r := by first | (rw [hji15] at H; exact H) | (simp only [hji15] at H ⊢; exact H)
                  have hji15_ : (if (rd x3_3 (rd (rd_L1 l0 x18_2) x24_3)) < (rd x3_3 x24_3) then (rd x3_3 (rd (rd_L1 l0 x18_2) x24_3)) else (rd x3_3 x24_3)) = ji15 := hji15
                  by_cases c16 : (rd x3_3 x24_3) = (ji15)
                  ·rw [if_pos c16] at H
                   have c16b0 : ((rd x3_3 x24_3) == (ji15)) = true := beq_iff_eq.mpr c16
                   have c16b1 : ((rd x3_3 x24_3) != (ji15)) = false := bne_eq_false_iff_eq.mpr c16
                   clear c16
                   by_cases c17 : (rd x3_3 (rd (rd_L1 l0 x18_2) x24_3)) = (ji15)
                   ·rw [if_pos c17] at H
                    have c17b0 : ((rd x3_3 (rd (rd_L1 l0 x18_2) x24_3)) == (ji15)) = true := beq_iff_eq.mpr c17
                    have c17b1 : ((rd x3_3 (rd (rd_L1 l0 x18_2) x24_3)) != (ji15)) = false := bne_eq_false_iff_eq.mpr c17
                    clear c17
                    have H' := A0_ H
                    clear H
                    have p241 : 0 ≤ (x24_3 : Int) := oD (by assumption)
                    have q241 : x24_3 < ((rd_L1 l0 x18_2).length : Int) := oD (by assumption)
                    obtain ⟨ad241, e241, hx241_0⟩ := tI HR240_0.out x24_3 p241 q241
                    cases e241
                    replace hx241_0 := (HB.out.cell (wL w _ hx241_0)).trans hx241_0
                    replace p241 := eq_true p241
                    replace q241 := eq_true q241
                    obtain ⟨Ao18, co18, eo18⟩ := rS HO_3.out
                    subst eo18
                    have p242 : 0 ≤ (x24_3 : Int) := oD (by assumption)
                    have q242 : x24_3 < (x3_3.length : Int) := oD (by assumption)
                    obtain ⟨ad242, e242, hx242_0⟩ := tI (rR HO_3.out).2.2 x24_3 p242 q242
                    cases e242
                    replace p242 := eq_true p242
                    replace q242 := eq_true q242
                    have p243 : 0 ≤ ((rd (rd_L1 l0 x18_2) x24_3) : Int) := oD (by assumption)
                    have q243 : (rd (rd_L1 l0 x18_2) x24_3) < (x3_3.length : Int) := oD (by assumption)
                    obtain ⟨ad243, e243, hx243_0⟩ := tI (rR HO_3.out).2.2 (rd (rd_L1 l0 x18_2) x24_3) p243 q243
                    obtain rfl : ad242 = ad243 := (by injection e243)
                    replace p243 := eq_true p243
                    replace q243 := eq_true q243
                    have p244 : 0 ≤ (x24_3 : Int) := oD (by assumption)
                    have q244 : x24_3 < (x3_3.length : Int) := oD (by assumption)
                    obtain ⟨ad244, e244, hx244_0⟩ := tI (rR HO_3.out).2.2 x24_3 p244 q244
                    obtain rfl : ad242 = ad244 := (by injection e244)
                    replace p244 := eq_true p244
                    replace q244 := eq_true q244
                    have p245 : 0 ≤ ((rd (rd_L1 l0 x18_2) x24_3) : Int) := oD (by assumption)
                    have q245 : (rd (rd_L1 l0 x18_2) x24_3) < (x3_3.length : Int) := oD (by assumption)
                    obtain ⟨ad245, e245, hx245_0⟩ := tI (rR HO_3.out).2.2 (rd (rd_L1 l0 x18_2) x24_3) p245 q245
                    obtain rfl : ad242 = ad245 := (by injection e245)
                    replace p245 := eq_true p245
                    replace q245 := eq_true q245
                    go_wp2
                    repeat (go_quiet (fail); try go_wp2)
                    go_roundg k3
                    case measure => have := HK1.out; have := HK2.out; have := HK3.out; omega
                    case rel => exact ⟨(x3_3), (x4_3), (wrap64 (x24_3 + 1)), (by first | rfl | (simp; done) | (simp [*]; done)), (by first | rfl | (simp; done) | (simp [*]; done)), H', ⟨by have := HK1.out; have := HK2.out; have := HK3.out; omega⟩, ⟨by (with_reducible repeat (first | apply rA | apply rN | apply rD)); exact HO_3.out⟩, ⟨by repeat (first | (with_reducible first | exact HB.out | apply bA | apply bN | apply bD) | exact HB.out)⟩⟩
                   ·rw [if_neg c17] at H
                    have c17b0 : ((rd x3_3 (rd (rd_L1 l0 x18_2) x24_3)) == (ji15)) = false := beq_eq_false_iff_ne.mpr c17
                    have c17b1 : ((rd x3_3 (rd (rd_L1 l0 x18_2) x24_3)) != (ji15)) = true := bne_iff_ne.mpr c17
                    obtain ⟨y246, hy246⟩ : ∃ y_ : List Int, y_ = (x3_3.set (x24_3 : Int).toNat (ji15)) := ⟨_, rfl⟩
                    replace H : (impl_orbits.l2 k3 l0 (y246.set ((rd (rd_L1 l0 x18_2) x24_3) : Int).toNat (ji15)) true l0 (l0.length : Int) x18_2 (rd_L1 l0 x18_2) ((rd_L1 l0 x18_2).length : Int) (wrap64 (x24_3 + 1))) = some r := by first | (rw [hy246]; with_reducible exact H) | (have H2_ := (Option.bind_some _ _).symm.trans H; rw [hy246]; with_reducible exact H2_) | (have H2_ := (Option.bind_some _ _).symm.trans H; with_reducible exact H2_) | with_reducible exact H | (rw [hy246]; exact H) | exact H
                    have Ny246 := A0_ hy246
                    clear hy246
                    obtain ⟨y247, hy247⟩ : ∃ y_ : List Int, y_ = (y246.set ((rd (rd_L1 l0 x18_2) x24_3) : Int).toNat (ji15)) := ⟨_, rfl⟩
                    replace H : (impl_orbits.l2 k3 l0 y247 true l0 (l0.length : Int) x18_2 (rd_L1 l0 x18_2) ((rd_L1 l0 x18_2).length : Int) (wrap64 (x24_3 + 1))) = some r := by first | (rw [hy247]; with_reducible exact H) | (have H2_ := (Option.bind_some _ _).symm.trans H; rw [hy247]; with_reducible exact H2_) | (have H2_ := (Option.bind_some _ _).symm.trans H; with_reducible exact H2_) | with_reducible exact H | (rw [hy247]; exact H) | exact H
                    have Ny247 := A0_ hy247
                    clear hy247
                    have H' := A0_ H
                    clear H
                    have p241 : 0 ≤ (x24_3 : Int) := oD (by assumption)
                    have q241 : x24_3 < ((rd_L1 l0 x18_2).length : Int) := oD (by assumption)
                    obtain ⟨ad241, e241, hx241_0⟩ := tI HR240_0.out x24_3 p241 q241
                    cases e241
                    replace hx241_0 := (HB.out.cell (wL w _ hx241_0)).trans hx241_0
                    replace p241 := eq_true p241
                    replace q241 := eq_true q241
                    obtain ⟨Ao21, co21, eo21⟩ := rS HO_3.out
                    subst eo21
                    have p242 : 0 ≤ (x24_3 : Int) := oD (by assumption)
                    have q242 : x24_3 < (x3_3.length : Int) := oD (by assumption)
                    obtain ⟨ad242, e242, hx242_0⟩ := tI (rR HO_3.out).2.2 x24_3 p242 q242
                    cases e242
                    replace p242 := eq_true p242
                    replace q242 := eq_true q242
                    have p243 : 0 ≤ ((rd (rd_L1 l0 x18_2) x24_3) : Int) := oD (by assumption)
                    have q243 : (rd (rd_L1 l0 x18_2) x24_3) < (x3_3.length : Int) := oD (by assumption)
                    obtain ⟨ad243, e243, hx243_0⟩ := tI (rR HO_3.out).2.2 (rd (rd_L1 l0 x18_2) x24_3) p243 q243
                    obtain rfl : ad242 = ad243 := (by injection e243)
                    replace p243 := eq_true p243
                    replace q243 := eq_true q243
                    have p244 : 0 ≤ (x24_3 : Int) := oD (by assumption)
                    have q244 : x24_3 < (x3_3.length : Int) := oD (by assumption)
                    obtain ⟨ad244, e244, hx244_0⟩ := tI (rR HO_3.out).2.2 x24_3 p244 q244
                    obtain rfl : ad242 = ad244 := (by injection e244)
                    replace p244 := eq_true p244
                    replace q244 := eq_true q244
                    have p245 : 0 ≤ ((rd (rd_L1 l0 x18_2) x24_3) : Int) := oD (by assumption)
                    have q245 : (rd (rd_L1 l0 x18_2) x24_3) < (x3_3.length : Int) := oD (by assumption)
                    obtain ⟨ad245, e245, hx245_0⟩ := tI (rR HO_3.out).2.2 (rd (rd_L1 l0 x18_2) x24_3) p245 q245
                    obtain rfl : ad242 = ad245 := (by injection e245)
                    replace p245 := eq_true p245
                    replace q245 := eq_true q245
                    have p19 : 0 ≤ (x24_3 : Int) := oD (by assumption)
                    have q19 : (x24_3 : Int) < ((x3_3.length : Int) : Int) := oD (by assumption)
                    obtain ⟨go19, co19, eo19, gb19, gl19, cl19, HG19⟩ := Kd.R_form HO_3.out (by omega)
                    (first | cases eo19 | (injection eo19 with ea_ en_ ec_; (first | subst ea_ | (injection ea_ with ea_; subst ea_)); subst ec_; clear en_))
                    have GB19 := A0_ gb19
                    have GG19 := A0_ HG19
                    clear gb19 gl19 HG19
                    (first | simp only [add_plain] at hx242_0 | skip)
                    (first | simp only [add_plain] at hx243_0 | skip)
                    (first | simp only [add_plain] at hx244_0 | skip)
                    (first | simp only [add_plain] at hx245_0 | skip)
                    obtain ⟨hx19_0, hf19_0⟩ := Kd.R_celln 0 HO_3.out (x24_3 : Int) p19 q19
                    replace p19 := eq_true p19
                    replace q19 := eq_true q19
                    have HP22 := Kd.R_putg HO_3.out (x24_3 : Int) ji15
                    go_wp2_with (first | ((with_reducible refine gS (t := 3) (p := 58) rfl ?_); (try (rw [drewN_self wr]; generalize hq_ : World.drewN wr _ = wr; have n0_ := A0_ (Kd.R_at hq_ HO_3.out); have n1_ := A0_ (below_at hq_ HB.out); clear hq_ HO_3 HB; have HO_3 := n0_; have HB := n1_; clear n0_ n1_; (try (obtain ⟨hx19_0, hf19_0⟩ := Kd.R_celln 0 HO_3.out (x24_3 : Int) (of_eq_true p19) (of_eq_true q19))); (try (have HP22 := Kd.R_putg HO_3.out (x24_3 : Int) ji15)))); refine store_event (t := 3) (p := 58) (v := ?vo_w23) (w1 := (wr.setCell ⟨go19, (x24_3 : Int).toNat, none⟩ (.int .i64 ji15))) ?hg ?ho ?hn ?hr ?_; (case ho => rfl); (case hg => rfl); (case hn => rfl); (case hr => first | (go_simp; done) | (go_simp; rfl) | (go_simp; congr 2; rw [← hji15]; unfold mn; omega)); intro w23 hw; have hg : wr.grownBy w23 (some go19) := (by rw [hw]; exact HP22.2); have hp_ : Kd.R (Kd.int .i64) 3 w23 w.heap.size (fun _ => True) (.slice (some ⟨go19, 0, none⟩) x3_3.length co21) y246 := (by rw [hw, Ny246.out]; exact HP22.1); clear HP22; have n0_ := A0_ (hp_); have n1_ := A0_ ((by rw [hw]; exact bS (HB.out) GB19.out : Below w.heap.size w w23)); clear HO_3; clear HB; have HO_3 := n0_; have HB := n1_; clear n0_ n1_; clear hg hw hp_; have p20 : 0 ≤ ((rd (rd_L1 l0 x18_2) x24_3) : Int) := oD (by assumption); have q20 : ((rd (rd_L1 l0 x18_2) x24_3) : Int) < ((x3_3.length : Int) : Int) := oD (by assumption); obtain ⟨hx20_0, hf20_0⟩ := Kd.R_celln 0 HO_3.out ((rd (rd_L1 l0 x18_2) x24_3) : Int) p20 q20; replace p20 := eq_true p20; replace q20 := eq_true q20; obtain ⟨hy24_, hz24_⟩ := Kd.R_celln 0 HO_3.out ((rd (rd_L1 l0 x18_2) x24_3) : Int) (oD (by assumption)) (oD (by assumption)); have HP24 := Kd.R_putg HO_3.out ((rd (rd_L1 l0 x18_2) x24_3) : Int) ji15) | ((with_reducible refine gS (t := 3) (p := 59) rfl ?_); (try (rw [drewN_self w23]; generalize hq_ : World.drewN w23 _ = w23; have n0_ := A0_ (Kd.R_at hq_ HO_3.out); have n1_ := A0_ (below_at hq_ HB.out); clear hq_ HO_3 HB; have HO_3 := n0_; have HB := n1_; clear n0_ n1_; (try (obtain ⟨hx19_0, hf19_0⟩ := Kd.R_celln 0 HO_3.out (x24_3 : Int) (of_eq_true p19) (of_eq_true q19))); (try (obtain ⟨hy24_, hz24_⟩ := Kd.R_celln 0 HO_3.out ((rd (rd_L1 l0 x18_2) x24_3) : Int) (oD (by assumption)) (oD (by assumption)))); (try (have HP24 := Kd.R_putg HO_3.out ((rd (rd_L1 l0 x18_2) x24_3) : Int) ji15)))); refine store_event (t := 3) (p := 59) (v := ?vo_w25) (w1 := (w23.setCell ⟨go19, ((rd (rd_L1 l0 x18_2) x24_3) : Int).toNat, none⟩ (.int .i64 ji15))) ?hg ?ho ?hn ?hr ?_; (case ho => rfl); (case hg => rfl); (case hn => rfl); (case hr => first | (go_simp; done) | (go_simp; rfl) | (go_simp; congr 2; rw [← hji15]; unfold mn; omega)); intro w25 hw; have hg : w23.grownBy w25 (some go19) := (by rw [hw]; exact HP24.2); have hp_ : Kd.R (Kd.int .i64) 3 w25 w.heap.size (fun _ => True) (.slice (some ⟨go19, 0, none⟩) x3_3.length co21) y247 := (by rw [hw, Ny247.out]; exact HP24.1); clear HP24; have n0_ := A0_ (hp_); have n1_ := A0_ ((by rw [hw]; exact bS (HB.out) GB19.out : Below w.heap.size w w25)); clear HO_3; clear HB; have HO_3 := n0_; have HB := n1_; clear n0_ n1_; clear hg hw hp_))
                    repeat (go_quiet (first | ((with_reducible refine gS (t := 3) (p := 58) rfl ?_); (try (rw [drewN_self wr]; generalize hq_ : World.drewN wr _ = wr; have n0_ := A0_ (Kd.R_at hq_ HO_3.out); have n1_ := A0_ (below_at hq_ HB.out); clear hq_ HO_3 HB; have HO_3 := n0_; have HB := n1_; clear n0_ n1_; (try (obtain ⟨hx19_0, hf19_0⟩ := Kd.R_celln 0 HO_3.out (x24_3 : Int) (of_eq_true p19) (of_eq_true q19))); (try (have HP22 := Kd.R_putg HO_3.out (x24_3 : Int) ji15)))); refine store_event (t := 3) (p := 58) (v := ?vo_w23) (w1 := (wr.setCell ⟨go19, (x24_3 : Int).toNat, none⟩ (.int .i64 ji15))) ?hg ?ho ?hn ?hr ?_; (case ho => rfl); (case hg => rfl); (case hn => rfl); (case hr => first | (go_simp; done) | (go_simp; rfl) | (go_simp; congr 2; rw [← hji15]; unfold mn; omega)); intro w23 hw; have hg : wr.grownBy w23 (some go19) := (by rw [hw]; exact HP22.2); have hp_ : Kd.R (Kd.int .i64) 3 w23 w.heap.size (fun _ => True) (.slice (some ⟨go19, 0, none⟩) x3_3.length co21) y246 := (by rw [hw, Ny246.out]; exact HP22.1); clear HP22; have n0_ := A0_ (hp_); have n1_ := A0_ ((by rw [hw]; exact bS (HB.out) GB19.out : Below w.heap.size w w23)); clear HO_3; clear HB; have HO_3 := n0_; have HB := n1_; clear n0_ n1_; clear hg hw hp_; have p20 : 0 ≤ ((rd (rd_L1 l0 x18_2) x24_3) : Int) := oD (by assumption); have q20 : ((rd (rd_L1 l0 x18_2) x24_3) : Int) < ((x3_3.length : Int) : Int) := oD (by assumption); obtain ⟨hx20_0, hf20_0⟩ := Kd.R_celln 0 HO_3.out ((rd (rd_L1 l0 x18_2) x24_3) : Int) p20 q20; replace p20 := eq_true p20; replace q20 := eq_true q20; obtain ⟨hy24_, hz24_⟩ := Kd.R_celln 0 HO_3.out ((rd (rd_L1 l0 x18_2) x24_3) : Int) (oD (by assumption)) (oD (by assumption)); have HP24 := Kd.R_putg HO_3.out ((rd (rd_L1 l0 x18_2) x24_3) : Int) ji15) | ((with_reducible refine gS (t := 3) (p := 59) rfl ?_); (try (rw [drewN_self w23]; generalize hq_ : World.drewN w23 _ = w23; have n0_ := A0_ (Kd.R_at hq_ HO_3.out); have n1_ := A0_ (below_at hq_ HB.out); clear hq_ HO_3 HB; have HO_3 := n0_; have HB := n1_; clear n0_ n1_; (try (obtain ⟨hx19_0, hf19_0⟩ := Kd.R_celln 0 HO_3.out (x24_3 : Int) (of_eq_true p19) (of_eq_true q19))); (try (obtain ⟨hy24_, hz24_⟩ := Kd.R_celln 0 HO_3.out ((rd (rd_L1 l0 x18_2) x24_3) : Int) (oD (by assumption)) (oD (by assumption)))); (try (have HP24 := Kd.R_putg HO_3.out ((rd (rd_L1 l0 x18_2) x24_3) : Int) ji15)))); refine store_event (t := 3) (p := 59) (v := ?vo_w25) (w1 := (w23.setCell ⟨go19, ((rd (rd_L1 l0 x18_2) x24_3) : Int).toNat, none⟩ (.int .i64 ji15))) ?hg ?ho ?hn ?hr ?_; (case ho => rfl); (case hg => rfl); (case hn => rfl); (case hr => first | (go_simp; done) | (go_simp; rfl) | (go_simp; congr 2; rw [← hji15]; unfold mn; omega)); intro w25 hw; have hg : w23.grownBy w25 (some go19) := (by rw [hw]; exact HP24.2); have hp_ : Kd.R (Kd.int .i64) 3 w25 w.heap.size (fun _ => True) (.slice (some ⟨go19, 0, none⟩) x3_3.length co21) y247 := (by rw [hw, Ny247.out]; exact HP24.1); clear HP24; have n0_ := A0_ (hp_); have n1_ := A0_ ((by rw [hw]; exact bS (HB.out) GB19.out : Below w.heap.size w w25)); clear HO_3; clear HB; have HO_3 := n0_; have HB := n1_; clear n0_ n1_; clear hg hw hp_)); try go_wp2_with (first | ((with_reducible refine gS (t := 3) (p := 58) rfl ?_); (try (rw [drewN_self wr]; generalize hq_ : World.drewN wr _ = wr; have n0_ := A0_ (Kd.R_at hq_ HO_3.out); have n1_ := A0_ (below_at hq_ HB.out); clear hq_ HO_3 HB; have HO_3 := n0_; have HB := n1_; clear n0_ n1_; (try (obtain ⟨hx19_0, hf19_0⟩ := Kd.R_celln 0 HO_3.out (x24_3 : Int) (of_eq_true p19) (of_eq_true q19))); (try (have HP22 := Kd.R_putg HO_3.out (x24_3 : Int) ji15)))); refine store_event (t := 3) (p := 58) (v := ?vo_w23) (w1 := (wr.setCell ⟨go19, (x24_3 : Int).toNat, none⟩ (.int .i64 ji15))) ?hg ?ho ?hn ?hr ?_; (case ho => rfl); (case hg => rfl); (case hn => rfl); (case hr => first | (go_simp; done) | (go_simp; rfl) | (go_simp; congr 2; rw [← hji15]; unfold mn; omega)); intro w23 hw; have hg : wr.grownBy w23 (some go19) := (by rw [hw]; exact HP22.2); have hp_ : Kd.R (Kd.int .i64) 3 w23 w.heap.size (fun _ => True) (.slice (some ⟨go19, 0, none⟩) x3_3.length co21) y246 := (by rw [hw, Ny246.out]; exact HP22.1); clear HP22; have n0_ := A0_ (hp_); have n1_ := A0_ ((by rw [hw]; exact bS (HB.out) GB19.out : Below w.heap.size w w23)); clear HO_3; clear HB; have HO_3 := n0_; have HB := n1_; clear n0_ n1_; clear hg hw hp_; have p20 : 0 ≤ ((rd (rd_L1 l0 x18_2) x24_3) : Int) := oD (by assumption); have q20 : ((rd (rd_L1 l0 x18_2) x24_3) : Int) < ((x3_3.length : Int) : Int) := oD (by assumption); obtain ⟨hx20_0, hf20_0⟩ := Kd.R_celln 0 HO_3.out ((rd (rd_L1 l0 x18_2) x24_3) : Int) p20 q20; replace p20 := eq_true p20; replace q20 := eq_true q20; obtain ⟨hy24_, hz24_⟩ := Kd.R_celln 0 HO_3.out ((rd (rd_L1 l0 x18_2) x24_3) : Int) (oD (by assumption)) (oD (by assumption)); have HP24 := Kd.R_putg HO_3.out ((rd (rd_L1 l0 x18_2) x24_3) : Int) ji15) | ((with_reducible refine gS (t := 3) (p := 59) rfl ?_); (try (rw [drewN_self w23]; generalize hq_ : World.drewN w23 _ = w23; have n0_ := A0_ (Kd.R_at hq_ HO_3.out); have n1_ := A0_ (below_at hq_ HB.out); clear hq_ HO_3 HB; have HO_3 := n0_; have HB := n1_; clear n0_ n1_; (try (obtain ⟨hx19_0, hf19_0⟩ := Kd.R_celln 0 HO_3.out (x24_3 : Int) (of_eq_true p19) (of_eq_true q19))); (try (obtain ⟨hy24_, hz24_⟩ := Kd.R_celln 0 HO_3.out ((rd (rd_L1 l0 x18_2) x24_3) : Int) (oD (by assumption)) (oD (by assumption)))); (try (have HP24 := Kd.R_putg HO_3.out ((rd (rd_L1 l0 x18_2) x24_3) : Int) ji15)))); refine store_event (t := 3) (p := 59) (v := ?vo_w25) (w1 := (w23.setCell ⟨go19, ((rd (rd_L1 l0 x18_2) x24_3) : Int).toNat, none⟩ (.int .i64 ji15))) ?hg ?ho ?hn ?hr ?_; (case ho => rfl); (case hg => rfl); (case hn => rfl); (case hr => first | (go_simp; done) | (go_simp; rfl) | (go_simp; congr 2; rw [← hji15]; unfold mn; omega)); intro w25 hw; have hg : w23.grownBy w25 (some go19) := (by rw [hw]; exact HP24.2); have hp_ : Kd.R (Kd.int .i64) 3 w25 w.heap.size (fun _ => True) (.slice (some ⟨go19, 0, none⟩) x3_3.length co21) y247 := (by rw [hw, Ny247.out]; exact HP24.1); clear HP24; have n0_ := A0_ (hp_); have n1_ := A0_ ((by rw [hw]; exact bS (HB.out) GB19.out : Below w.heap.size w w25)); clear HO_3; clear HB; have HO_3 := n0_; have HB := n1_; clear n0_ n1_; clear hg hw hp_)))
                    go_roundg k3
                    case measure => have := HK1.out; have := HK2.out; have := HK3.out; omega
                    case rel => exact ⟨(y247), (true), (wrap64 (x24_3 + 1)), (by first | rfl | (simp; done) | (simp [*]; done)), (by first | rfl | (simp; done) | (simp [*]; done)), H', ⟨by have := HK1.out; have := HK2.out; have := HK3.out; omega⟩, ⟨by (with_reducible repeat (first | apply rA | apply rN | apply rD)); exact HO_3.out⟩, ⟨by repeat (first | (with_reducible first | exact HB.out | apply bA | apply bN | apply bD) | exact HB.out)⟩⟩
                  ·rw [if_neg c16] at H
                   have c16b0 : ((rd x3_3 x24_3) == (ji15)) = false := beq_eq_false_iff_ne.mpr c16
                   have c16b1 : ((rd x3_3 x24_3) != (ji15)) = true := bne_iff_ne.mpr c16
                   obtain ⟨y248, hy248⟩ : ∃ y_ : List Int, y_ = (x3_3.set (x24_3 : Int).toNat (ji15)) := ⟨_, rfl⟩
                   replace H : (impl_orbits.l2 k3 l0 (y248.set ((rd (rd_L1 l0 x18_2) x24_3) : Int).toNat (ji15)) true l0 (l0.length : Int) x18_2 (rd_L1 l0 x18_2) ((rd_L1 l0 x18_2).length : Int) (wrap64 (x24_3 + 1))) = some r := by first | (rw [hy248]; with_reducible exact H) | (have H2_ := (Option.bind_some _ _).symm.trans H; rw [hy248]; with_reducible exact H2_) | (have H2_ := (Option.bind_some _ _).symm.trans H; with_reducible exact H2_) | with_reducible exact H | (rw [hy248]; exact H) | exact H
                   have Ny248 := A0_ hy248
                   clear hy248
                   obtain ⟨y249, hy249⟩ : ∃ y_ : List Int, y_ = (y248.set ((rd (rd_L1 l0 x18_2) x24_3) : Int).toNat (ji15)) := ⟨_, rfl⟩
                   replace H : (impl_orbits.l2 k3 l0 y249 true l0 (l0.length : Int) x18_2 (rd_L1 l0 x18_2) ((rd_L1 l0 x18_2).length : Int) (wrap64 (x24_3 + 1))) = some r := by first | (rw [hy249]; with_reducible exact H) | (have H2_ := (Option.bind_some _ _).symm.trans H; rw [hy249]; with_reducible exact H2_) | (have H2_ := (Option.bind_some _ _).symm.trans H; with_reducible exact H2_) | with_reducible exact H | (rw [hy249]; exact H) | exact H
                   have Ny249 := A0_ hy249
                   clear hy249
                   have H' := A0_ H
                   clear H
                   have p241 : 0 ≤ (x24_3 : Int) := oD (by assumption)
                   have q241 : x24_3 < ((rd_L1 l0 x18_2).length : Int) := oD (by assumption)
                   obtain ⟨ad241, e241, hx241_0⟩ := tI HR240_0.out x24_3 p241 q241
                   cases e241
                   replace hx241_0 := (HB.out.cell (wL w _ hx241_0)).trans hx241_0
                   replace p241 := eq_true p241
                   replace q241 := eq_true q241
                   obtain ⟨Ao28, co28, eo28⟩ := rS HO_3.out
                   subst eo28
                   have p242 : 0 ≤ (x24_3 : Int) := oD (by assumption)
                   have q242 : x24_3 < (x3_3.length : Int) := oD (by assumption)
                   obtain ⟨ad242, e242, hx242_0⟩ := tI (rR HO_3.out).2.2 x24_3 p242 q242
                   cases e242
                   replace p242 := eq_true p242
                   replace q242 := eq_true q242
                   have p243 : 0 ≤ ((rd (rd_L1 l0 x18_2) x24_3) : Int) := oD (by assumption)
                   have q243 : (rd (rd_L1 l0 x18_2) x24_3) < (x3_3.length : Int) := oD (by assumption)
                   obtain ⟨ad243, e243, hx243_0⟩ := tI (rR HO_3.out).2.2 (rd (rd_L1 l0 x18_2) x24_3) p243 q243
                   obtain rfl : ad242 = ad243 := (by injection e243)
                   replace p243 := eq_true p243
                   replace q243 := eq_true q243
                   have p244 : 0 ≤ (x24_3 : Int) := oD (by assumption)
                   have q244 : x24_3 < (x3_3.length : Int) := oD (by assumption)
                   obtain ⟨ad244, e244, hx244_0⟩ := tI (rR HO_3.out).2.2 x24_3 p244 q244
                   obtain rfl : ad242 = ad244 := (by injection e244)
                   replace p244 := eq_true p244
                   replace q244 := eq_true q244
                   have p26 : 0 ≤ (x24_3 : Int) := oD (by assumption)
                   have q26 : (x24_3 : Int) < ((x3_3.length : Int) : Int) := oD (by assumption)
                   obtain ⟨go26, co26, eo26, gb26, gl26, cl26, HG26⟩ := Kd.R_form HO_3.out (by omega)
                   (first | cases eo26 | (injection eo26 with ea_ en_ ec_; (first | subst ea_ | (injection ea_ with ea_; subst ea_)); subst ec_; clear en_))
                   have GB26 := A0_ gb26
                   have GG26 := A0_ HG26
                   clear gb26 gl26 HG26
                   (first | simp only [add_plain] at hx242_0 | skip)
                   (first | simp only [add_plain] at hx243_0 | skip)
                   (first | simp only [add_plain] at hx244_0 | skip)
                   obtain ⟨hx26_0, hf26_0⟩ := Kd.R_celln 0 HO_3.out (x24_3 : Int) p26 q26
                   replace p26 := eq_true p26
                   replace q26 := eq_true q26
                   have HP29 := Kd.R_putg HO_3.out (x24_3 : Int) ji15
                   go_wp2_with (first | ((with_reducible refine gS (t := 3) (p := 58) rfl ?_); (try (rw [drewN_self wr]; generalize hq_ : World.drewN wr _ = wr; have n0_ := A0_ (Kd.R_at hq_ HO_3.out); have n1_ := A0_ (below_at hq_ HB.out); clear hq_ HO_3 HB; have HO_3 := n0_; have HB := n1_; clear n0_ n1_; (try (obtain ⟨hx26_0, hf26_0⟩ := Kd.R_celln 0 HO_3.out (x24_3 : Int) (of_eq_true p26) (of_eq_true q26))); (try (have HP29 := Kd.R_putg HO_3.out (x24_3 : Int) ji15)))); refine store_event (t := 3) (p := 58) (v := ?vo_w30) (w1 := (wr.setCell ⟨go26, (x24_3 : Int).toNat, none⟩ (.int .i64 ji15))) ?hg ?ho ?hn ?hr ?_; (case ho => rfl); (case hg => rfl); (case hn => rfl); (case hr => first | (go_simp; done) | (go_simp; rfl) | (go_simp; congr 2; rw [← hji15]; unfold mn; omega)); intro w30 hw; have hg : wr.grownBy w30 (some go26) := (by rw [hw]; exact HP29.2); have hp_ : Kd.R (Kd.int .i64) 3 w30 w.heap.size (fun _ => True) (.slice (some ⟨go26, 0, none⟩) x3_3.length co28) y248 := (by rw [hw, Ny248.out]; exact HP29.1); clear HP29; have n0_ := A0_ (hp_); have n1_ := A0_ ((by rw [hw]; exact bS (HB.out) GB26.out : Below w.heap.size w w30)); clear HO_3; clear HB; have HO_3 := n0_; have HB := n1_; clear n0_ n1_; clear hg hw hp_; have p27 : 0 ≤ ((rd (rd_L1 l0 x18_2) x24_3) : Int) := oD (by assumption); have q27 : ((rd (rd_L1 l0 x18_2) x24_3) : Int) < ((x3_3.length : Int) : Int) := oD (by assumption); obtain ⟨hx27_0, hf27_0⟩ := Kd.R_celln 0 HO_3.out ((rd (rd_L1 l0 x18_2) x24_3) : Int) p27 q27; replace p27 := eq_true p27; replace q27 := eq_true q27; obtain ⟨hy31_, hz31_⟩ := Kd.R_celln 0 HO_3.out ((rd (rd_L1 l0 x18_2) x24_3) : Int) (oD (by assumption)) (oD (by assumption)); have HP31 := Kd.R_putg HO_3.out ((rd (rd_L1 l0 x18_2) x24_3) : Int) ji15) | ((with_reducible refine gS (t := 3) (p := 59) rfl ?_); (try (rw [drewN_self w30]; generalize hq_ : World.drewN w30 _ = w30; have n0_ := A0_ (Kd.R_at hq_ HO_3.out); have n1_ := A0_ (below_at hq_ HB.out); clear hq_ HO_3 HB; have HO_3 := n0_; have HB := n1_; clear n0_ n1_; (try (obtain ⟨hx26_0, hf26_0⟩ := Kd.R_celln 0 HO_3.out (x24_3 : Int) (of_eq_true p26) (of_eq_true q26))); (try (obtain ⟨hy31_, hz31_⟩ := Kd.R_celln 0 HO_3.out ((rd (rd_L1 l0 x18_2) x24_3) : Int) (oD (by assumption)) (oD (by assumption)))); (try (have HP31 := Kd.R_putg HO_3.out ((rd (rd_L1 l0 x18_2) x24_3) : Int) ji15)))); refine store_event (t := 3) (p := 59) (v := ?vo_w32) (w1 := (w30.setCell ⟨go26, ((rd (rd_L1 l0 x18_2) x24_3) : Int).toNat, none⟩ (.int .i64 ji15))) ?hg ?ho ?hn ?hr ?_; (case ho => rfl); (case hg => rfl); (case hn => rfl); (case hr => first | (go_simp; done) | (go_simp; rfl) | (go_simp; congr 2; rw [← hji15]; unfold mn; omega)); intro w32 hw; have hg : w30.grownBy w32 (some go26) := (by rw [hw]; exact HP31.2); have hp_ : Kd.R (Kd.int .i64) 3 w32 w.heap.size (fun _ => True) (.slice (some ⟨go26, 0, none⟩) x3_3.length co28) y249 := (by rw [hw, Ny249.out]; exact HP31.1); clear HP31; have n0_ := A0_ (hp_); have n1_ := A0_ ((by rw [hw]; exact bS (HB.out) GB26.out : Below w.heap.size w w32)); clear HO_3; clear HB; have HO_3 := n0_; have HB := n1_; clear n0_ n1_; clear hg hw hp_))
                   repeat (go_quiet (first | ((with_reducible refine gS (t := 3) (p := 58) rfl ?_); (try (rw [drewN_self wr]; generalize hq_ : World.drewN wr _ = wr; have n0_ := A0_ (Kd.R_at hq_ HO_3.out); have n1_ := A0_ (below_at hq_ HB.out); clear hq_ HO_3 HB; have HO_3 := n0_; have HB := n1_; clear n0_ n1_; (try (obtain ⟨hx26_0, hf26_0⟩ := Kd.R_celln 0 HO_3.out (x24_3 : Int) (of_eq_true p26) (of_eq_true q26))); (try (have HP29 := Kd.R_putg HO_3.out (x24_3 : Int) ji15)))); refine store_event (t := 3) (p := 58) (v := ?vo_w30) (w1 := (wr.setCell ⟨go26, (x24_3 : Int).toNat, none⟩ (.int .i64 ji15))) ?hg ?ho ?hn ?hr ?_; (case ho => rfl); (case hg => rfl); (case hn => rfl); (case hr => first | (go_simp; done) | (go_simp; rfl) | (go_simp; congr 2; rw [← hji15]; unfold mn; omega)); intro w30 hw; have hg : wr.grownBy w30 (some go26) := (by rw [hw]; exact HP29.2); have hp_ : Kd.R (Kd.int .i64) 3 w30 w.heap.size (fun _ => True) (.slice (some ⟨go26, 0, none⟩) x3_3.length co28) y248 := (by rw [hw, Ny248.out]; exact HP29.1); clear HP29; have n0_ := A0_ (hp_); have n1_ := A0_ ((by rw [hw]; exact bS (HB.out) GB26.out : Below w.heap.size w w30)); clear HO_3; clear HB; have HO_3 := n0_; have HB := n1_; clear n0_ n1_; clear hg hw hp_; have p27 : 0 ≤ ((rd (rd_L1 l0 x18_2) x24_3) : Int) := oD (by assumption); have q27 : ((rd (rd_L1 l0 x18_2) x24_3) : Int) < ((x3_3.length : Int) : Int) := oD (by assumption); obtain ⟨hx27_0, hf27_0⟩ := Kd.R_celln 0 HO_3.out ((rd (rd_L1 l0 x18_2) x24_3) : Int) p27 q27; replace p27 := eq_true p27; replace q27 := eq_true q27; obtain ⟨hy31_, hz31_⟩ := Kd.R_celln 0 HO_3.out ((rd (rd_L1 l0 x18_2) x24_3) : Int) (oD (by assumption)) (oD (by assumption)); have HP31 := Kd.R_putg HO_3.out ((rd (rd_L1 l0 x18_2) x24_3) : Int) ji15) | ((with_reducible refine gS (t := 3) (p := 59) rfl ?_); (try (rw [drewN_self w30]; generalize hq_ : World.drewN w30 _ = w30; have n0_ := A0_ (Kd.R_at hq_ HO_3.out); have n1_ := A0_ (below_at hq_ HB.out); clear hq_ HO_3 HB; have HO_3 := n0_; have HB := n1_; clear n0_ n1_; (try (obtain ⟨hx26_0, hf26_0⟩ := Kd.R_celln 0 HO_3.out (x24_3 : Int) (of_eq_true p26) (of_eq_true q26))); (try (obtain ⟨hy31_, hz31_⟩ := Kd.R_celln 0 HO_3.out ((rd (rd_L1 l0 x18_2) x24_3) : Int) (oD (by assumption)) (oD (by assumption)))); (try (have HP31 := Kd.R_putg HO_3.out ((rd (rd_L1 l0 x18_2) x24_3) : Int) ji15)))); refine store_event (t := 3) (p := 59) (v := ?vo_w32) (w1 := (w30.setCell ⟨go26, ((rd (rd_L1 l0 x18_2) x24_3) : Int).toNat, none⟩ (.int .i64 ji15))) ?hg ?ho ?hn ?hr ?_; (case ho => rfl); (case hg => rfl); (case hn => rfl); (case hr => first | (go_simp; done) | (go_simp; rfl) | (go_simp; congr 2; rw [← hji15]; unfold mn; omega)); intro w32 hw; have hg : w30.grownBy w32 (some go26) := (by rw [hw]; exact HP31.2); have hp_ : Kd.R (Kd.int .i64) 3 w32 w.heap.size (fun _ => True) (.slice (some ⟨go26, 0, none⟩) x3_3.length co28) y249 := (by rw [hw, Ny249.out]; exact HP31.1); clear HP31; have n0_ := A0_ (hp_); have n1_ := A0_ ((by rw [hw]; exact bS (HB.out) GB26.out : Below w.heap.size w w32)); clear HO_3; clear HB; have HO_3 := n0_; have HB := n1_; clear n0_ n1_; clear hg hw hp_)); try go_wp2_with (first | ((with_reducible refine gS (t := 3) (p := 58) rfl ?_); (try (rw [drewN_self wr]; generalize hq_ : World.drewN wr _ = wr; have n0_ := A0_ (Kd.R_at hq_ HO_3.out); have n1_ := A0_ (below_at hq_ HB.out); clear hq_ HO_3 HB; have HO_3 := n0_; have HB := n1_; clear n0_ n1_; (try (obtain ⟨hx26_0, hf26_0⟩ := Kd.R_celln 0 HO_3.out (x24_3 : Int) (of_eq_true p26) (of_eq_true q26))); (try (have HP29 := Kd.R_putg HO_3.out (x24_3 : Int) ji15)))); refine store_event (t := 3) (p := 58) (v := ?vo_w30) (w1 := (wr.setCell ⟨go26, (x24_3 : Int).toNat, none⟩ (.int .i64 ji15))) ?hg ?ho ?hn ?hr ?_; (case ho => rfl); (case hg => rfl); (case hn => rfl); (case hr => first | (go_simp; done) | (go_simp; rfl) | (go_simp; congr 2; rw [← hji15]; unfold mn; omega)); intro w30 hw; have hg : wr.grownBy w30 (some go26) := (by rw [hw]; exact HP29.2); have hp_ : Kd.R (Kd.int .i64) 3 w30 w.heap.size (fun _ => True) (.slice (some ⟨go26, 0, none⟩) x3_3.length co28) y248 := (by rw [hw, Ny248.out]; exact HP29.1); clear HP29; have n0_ := A0_ (hp_); have n1_ := A0_ ((by rw [hw]; exact bS (HB.out) GB26.out : Below w.heap.size w w30)); clear HO_3; clear HB; have HO_3 := n0_; have HB := n1_; clear n0_ n1_; clear hg hw hp_; have p27 : 0 ≤ ((rd (rd_L1 l0 x18_2) x24_3) : Int) := oD (by assumption); have q27 : ((rd (rd_L1 l0 x18_2) x24_3) : Int) < ((x3_3.length : Int) : Int) := oD (by assumption); obtain ⟨hx27_0, hf27_0⟩ := Kd.R_celln 0 HO_3.out ((rd (rd_L1 l0 x18_2) x24_3) : Int) p27 q27; replace p27 := eq_true p27; replace q27 := eq_true q27; obtain ⟨hy31_, hz31_⟩ := Kd.R_celln 0 HO_3.out ((rd (rd_L1 l0 x18_2) x24_3) : Int) (oD (by assumption)) (oD (by assumption)); have HP31 := Kd.R_putg HO_3.out ((rd (rd_L1 l0 x18_2) x24_3) : Int) ji15) | ((with_reducible refine gS (t := 3) (p := 59) rfl ?_); (try (rw [drewN_self w30]; generalize hq_ : World.drewN w30 _ = w30; have n0_ := A0_ (Kd.R_at hq_ HO_3.out); have n1_ := A0_ (below_at hq_ HB.out); clear hq_ HO_3 HB; have HO_3 := n0_; have HB := n1_; clear n0_ n1_; (try (obtain ⟨hx26_0, hf26_0⟩ := Kd.R_celln 0 HO_3.out (x24_3 : Int) (of_eq_true p26) (of_eq_true q26))); (try (obtain ⟨hy31_, hz31_⟩ := Kd.R_celln 0 HO_3.out ((rd (rd_L1 l0 x18_2) x24_3) : Int) (oD (by assumption)) (oD (by assumption)))); (try (have HP31 := Kd.R_putg HO_3.out ((rd (rd_L1 l0 x18_2) x24_3) : Int) ji15)))); refine store_event (t := 3) (p := 59) (v := ?vo_w32) (w1 := (w30.setCell ⟨go26, ((rd (rd_L1 l0 x18_2) x24_3) : Int).toNat, none⟩ (.int .i64 ji15))) ?hg ?ho ?hn ?hr ?_; (case ho => rfl); (case hg => rfl); (case hn => rfl); (case hr => first | (go_simp; done) | (go_simp; rfl) | (go_simp; congr 2; rw [← hji15]; unfold mn; omega)); intro w32 hw; have hg : w30.grownBy w32 (some go26) := (by rw [hw]; exact HP31.2); have hp_ : Kd.R (Kd.int .i64) 3 w32 w.heap.size (fun _ => True) (.slice (some ⟨go26, 0, none⟩) x3_3.length co28) y249 := (by rw [hw, Ny249.out]; exact HP31.1); clear HP31; have n0_ := A0_ (hp_); have n1_ := A0_ ((by rw [hw]; exact bS (HB.out) GB26.out : Below w.heap.size w w32)); clear HO_3; clear HB; have HO_3 := n0_; have HB := n1_; clear n0_ n1_; clear hg hw hp_)))
                   go_roundg k3
                   case measure => have := HK1.out; have := HK2.out; have := HK3.out; omega
                   case rel => exact ⟨(y249), (true), (wrap64 (x24_3 + 1)), (by first | rfl | (simp; done) | (simp [*]; done)), (by first | rfl | (simp; done) | (simp [*]; done)), H', ⟨by have := HK1.out; have := HK2.out; have := HK3.out; omega⟩, ⟨by (with_reducible repeat (first | apply rA | apply rN | apply rD)); exact HO_3.out⟩, ⟨by repeat (first | (with_reducible first | exact HB.out | apply bA | apply bN | apply bD) | exact HB.out)⟩⟩
                 ·rw [if_neg c14] at H
                  exact absurd H (by simp)
                ·rw [if_neg c13] at H
                 exact absurd H (by simp)
               ·rw [if_neg c12] at H
                exact absurd H (by simp)
              ·rw [if_neg c11] at H
               exact absurd H (by simp)
             ·rw [if_neg c10] at H
              exact absurd H (by simp)
            ·rw [if_neg c9] at H
             have c9b0 : decide (x24_3 < ((rd_L1 l0 x18_2).length : Int)) = false := dF c9
             clear c9
             have H' := A0_ H
             clear H
             go_wp2
             repeat (go_quiet (fail); try go_wp2)
             go_roundg k3
             case measure => have := HK1.out; have := HK2.out; have := HK3.out; omega
             case rel => exact ⟨(x3_3), (x4_3), (wrap64 (x18_2 + 1)), (by first | rfl | (simp; done) | (simp [*]; done)), (by first | rfl | (simp; done) | (simp [*]; done)), H', ⟨by have := HK1.out; have := HK2.out; have := HK3.out; omega⟩, ⟨by (with_reducible repeat (first | apply rA | apply rN | apply rD)); exact HO_3.out⟩, ⟨by repeat (first | (with_reducible first | exact HB.out | apply bA | apply bN | apply bD) | exact HB.out)⟩⟩
         ·rw [if_neg c8] at H
          exact absurd H (by simp)
        ·rw [if_neg c7] at H
         exact absurd H (by simp)
       ·rw [if_neg c6] at H
        have c6b0 : decide (x18_2 < (l0.length : Int)) = false := dF c6
        clear c6
        have H' := A0_ H
        clear H
        go_wp2
        repeat (go_quiet (fail); try go_wp2)
        go_roundg k2
        case measure => have := HK1.out; have := HK2.out; omega
        case rel => exact ⟨(x3_2), (x4_2), (by first | rfl | (simp; done) | (simp [*]; done)), H', ⟨by have := HK1.out; have := HK2.out; omega⟩, ⟨by (with_reducible repeat (first | apply rA | apply rN | apply rD)); exact HO_3.out⟩, ⟨by repeat (first | (with_reducible first | exact HB.out | apply bA | apply bN | apply bD) | exact HB.out)⟩⟩
    ·replace c5 := Bool.eq_false_iff.mpr c5
     subst c5
     have H1 : (some x3_1) = some r := by rw [if_neg (show ¬ (false = true) by decide)] at H; exact H
     clear H
     have H := H1
     clear H1
     obtain rfl := sI H
     go_wp2
     repeat (go_quiet (fail); try go_wp2)
     go_ret
     exact ⟨_, by first | rfl | (simp [*] <;> rfl), by (with_reducible repeat (first | apply rA | apply rN | apply rD)); exact HO_3.out, by repeat (first | (with_reducible first | exact HB.out | apply bA | apply bN | apply bD) | exact HB.out)⟩
 ·rw [if_neg c2] at H
  exact absurd H (by simp)

/-! ### impl_MapValid: function 59 -/
mutual
def impl_MapValid.j0 : Nat → Bool → List Int → List Int → Option (Bool)
  | 0, _, _, _ => none
  | k + 1, x23, x251000, x251001 => if x23 = true then (some false) else (impl_MapValid.l0 k x251001 (x251001.length : Int) 0 x251000 x251001)
def impl_MapValid.l0 : Nat → List Int → Int → Int → List Int → List Int → Option (Bool)
  | 0, _, _, _, _, _ => none
  | k + 1, x25, x26, x27, x251000, x251001 => if x27 < x26 then (if 0 ≤ x27 then (if x27 < (x25.length : Int) then (if (rd x25 x27) = x27 then (some false) else (if 0 ≤ (rd x25 x27) then (if (rd x25 x27) < (x251001.length : Int) then (if (rd x251001 (rd x25 x27)) = x27 then (impl_MapValid.l0 k x25 x26 (wrap64 (x27 + 1)) x251000 x251001) else (some false)) else (none)) else (none))) else (none)) else (none)) else ((impl_orbits.f k (([x251000, x251001] : List (List Int)))).bind fun t258 => ((slices_Max_int_int.f t258).bind fun t261 => (some (t261 == 0))))
end
def impl_MapValid.f (k : Nat) (l0_0 : List Int) (l0_1 : List Int) : Option (Bool) := (impl_PermValid.f l0_0).bind fun t251 => (if t251 = true then ((impl_PermValid.f l0_1).bind fun t252 => (if t252 = true then (impl_MapValid.j0 k ((l0_0.length : Int) != (l0_1.length : Int)) l0_0 l0_1) else (impl_MapValid.j0 k true l0_0 l0_1))) else (impl_MapValid.j0 k true l0_0 l0_1))
set_option maxHeartbeats 8000000 in
set_option maxRecDepth 100000 in
theorem impl_MapValid.calls (k : Nat) (P0_0_ : Nat → Prop) (A0_0 : Option Addr) (c0_0 : Nat) (l0_0 : List Int) (P0_1_ : Nat → Prop) (A0_1 : Option Addr) (c0_1 : Nat) (l0_1 : List Int) (r : Bool) (w : World) (hs0_0 : Kd.V (Kd.int .i64) 3 w w.heap.size (fun k_ => P0_0_ k_) (.slice A0_0 l0_0.length c0_0) l0_0) (hs0_1 : Kd.V (Kd.int .i64) 3 w w.heap.size (fun k_ => P0_1_ k_) (.slice A0_1 l0_1.length c0_1) l0_1) (h : impl_MapValid.f k l0_0 l0_1 = some r) :
    Calls Try.prog 59 #[.agg #[.slice A0_0 l0_0.length c0_0, .slice A0_1 l0_1.length c0_1]] w fun e w' => e = .returned (.bool r) ∧ Below w.heap.size w w' := by
 have hu29 := Try.underlying29
 have HO0_0 := A0_ (show Kd.V (Kd.int .i64) 3 w w.heap.size (fun k_ => ((P0_0_ k_ ∨ P0_1_ k_) ∨ w.heap.size ≤ k_)) (.slice A0_0 l0_0.length c0_0) l0_0 from Kd.V_mono hs0_0 (fun k_ hk => .inl (.inl hk)))
 have HO0_1 := A0_ (show Kd.V (Kd.int .i64) 3 w w.heap.size (fun k_ => ((P0_0_ k_ ∨ P0_1_ k_) ∨ w.heap.size ≤ k_)) (.slice A0_1 l0_1.length c0_1) l0_1 from Kd.V_mono hs0_1 (fun k_ hk => .inl (.inr hk)))
 have HB := A0_ (Below.refl w.heap.size w)
 have H : ((impl_PermValid.f l0_0).bind fun t251 => (if t251 = true then ((impl_PermValid.f l0_1).bind fun t252 => (if t252 = true then (impl_MapValid.j0 k ((l0_0.length : Int) != (l0_1.length : Int)) l0_0 l0_1) else (impl_MapValid.j0 k true l0_0 l0_1))) else (impl_MapValid.j0 k true l0_0 l0_1))) = some r := h
 clear h
 have HC2 := A0_ H
 clear H
 go_enter Try.func59, Try.ntmps59
 go_upto_region 1 with (first | ((with_reducible refine gD (N := 1) rfl ?_); refine box_event ?hg (N := 1) ?hd (cs := #[.slice A0_0 l0_0.length c0_0, .slice A0_1 l0_1.length c0_1]) (t := 29) ?hr ?_; (case hd => rfl); (case hg => rfl); (case hr => first | (go_simp; done) | (go_simp; rfl)); intro gb250 hg w3 hbox hb; have n0_ := A0_ (Kd.V_below (Kd.V_elderB (by (with_reducible repeat (first | apply Kd.V_alloc | apply Kd.V_drewN | apply Kd.V_drew)); exact HO0_0.out) gb250 (Nat.le_of_eq hg.symm)) hb); have n1_ := A0_ (Kd.V_below (Kd.V_elderB (by (with_reducible repeat (first | apply Kd.V_alloc | apply Kd.V_drewN | apply Kd.V_drew)); exact HO0_1.out) gb250 (Nat.le_of_eq hg.symm)) hb); have n2_ := A0_ (bT (by repeat (first | (with_reducible first | exact HB.out | apply bA | apply bN | apply bD) | exact HB.out)) hb); have n3_ := A0_ (hbox); have n4_ := A0_ ((by rw [hg]; exact (bZ (by repeat (first | (with_reducible first | exact HB.out | apply bA | apply bN | apply bD) | exact HB.out))) : w.heap.size ≤ gb250)); have n5_ := A0_ ((by rw [hg]; exact (bZ (by repeat (first | (with_reducible first | exact HB.out | apply bA | apply bN | apply bD) | exact HB.out))) : w.heap.size ≤ gb250)); clear HO0_0; clear HO0_1; clear HB; have HO0_0 := n0_; have HO0_1 := n1_; have HB := n2_; have BK250 := n3_; have GW250 := n4_; have GE250 := n5_; clear n0_ n1_ n2_ n3_ n4_ n5_; clear hb hbox hg))
 (try simp only [Act.put, List.setIfInBounds_toArray, List.set_cons_zero, List.set_cons_succ])
 go_cut [23] (fun v23 wc => ∃ (kq : Nat) (x23_1 : Bool), v23 = .bool x23_1 ∧ Aside0 (impl_MapValid.j0 kq x23_1 l0_0 l0_1 = some r) ∧ Aside0 (kq ≤ k) ∧ Aside0 (Kd.V (Kd.int .i64) 3 wc w.heap.size (fun k_ => ((P0_0_ k_ ∨ P0_1_ k_) ∨ w.heap.size ≤ k_) ∧ k_ ≠ gb250) (.slice A0_0 l0_0.length c0_0) l0_0) ∧ Aside0 (Kd.V (Kd.int .i64) 3 wc w.heap.size (fun k_ => ((P0_0_ k_ ∨ P0_1_ k_) ∨ w.heap.size ≤ k_) ∧ k_ ≠ gb250) (.slice A0_1 l0_1.length c0_1) l0_1) ∧ Aside0 (wc.heap[gb250]? = some (.cells #[(.slice A0_0 l0_0.length c0_0), (.slice A0_1 l0_1.length c0_1)] 29 (0, 0))) ∧ Aside0 (Below w.heap.size w wc))
 case first =>
  have H := HC2.out
  clear HC2
  replace H := Option.bind_eq_some_iff.mp H
  obtain ⟨t251, A40, H⟩ := H
  replace H : (if t251 = true then ((impl_PermValid.f l0_1).bind fun t252 => (if t252 = true then (impl_MapValid.j0 k ((l0_0.length : Int) != (l0_1.length : Int)) l0_0 l0_1) else (impl_MapValid.j0 k true l0_0 l0_1))) else (impl_MapValid.j0 k true l0_0 l0_1)) = some r := H
  have A4 := A0_ A40
  clear A40
  by_cases c5 : t251 = true
  ·subst c5
   have H1 : ((impl_PermValid.f l0_1).bind fun t252 => (if t252 = true then (impl_MapValid.j0 k ((l0_0.length : Int) != (l0_1.length : Int)) l0_0 l0_1) else (impl_MapValid.j0 k true l0_0 l0_1))) = some r := by rw [if_pos rfl] at H; exact H
   clear H
   have H := H1
   clear H1
   replace H := Option.bind_eq_some_iff.mp H
   obtain ⟨t252, A60, H⟩ := H
   replace H : (if t252 = true then (impl_MapValid.j0 k ((l0_0.length : Int) != (l0_1.length : Int)) l0_0 l0_1) else (impl_MapValid.j0 k true l0_0 l0_1)) = some r := H
   have A6 := A0_ A60
   clear A60
   by_cases c7 : t252 = true
   ·subst c7
    have H1 : (impl_MapValid.j0 k ((l0_0.length : Int) != (l0_1.length : Int)) l0_0 l0_1) = some r := by rw [if_pos rfl] at H; exact H
    clear H
    have H := H1
    clear H1
    have H' := A0_ H
    clear H
    have hcz8_0 : w3.cell? ⟨gb250, 0, none⟩ = some (.slice A0_0 l0_0.length c0_0) := (kC BK250.out 0).trans rfl
    have hcz8_1 : w3.cell? ⟨gb250, 1, none⟩ = some (.slice A0_1 l0_1.length c0_1) := (kC BK250.out 1).trans rfl
    have hfz8_0 := kF BK250.out 0
    have hfz8_1 := kF BK250.out 1
    go_wp2_with (first | ((with_reducible refine gC (f := 60) rfl ?_); refine goesL_ (some 7) rfl rfl Try.func60 (by kernel_rfl) rfl #[.slice A0_0 l0_0.length c0_0] rfl (by (try simp only [List.map_toArray, List.map_cons, List.map_nil]); first | done | rfl) ?_; (with_reducible refine (impl_PermValid.calls _ _ l0_0 true _ ?side1 ?side2 A4.out).mono ?_); (case side1 => repeat (first | exact (Kd.V_reads' HO0_0.out).2.2 | (with_reducible refine cA ?_ _) | (with_reducible refine cN ?_ _) | (with_reducible refine cD ?_))); (case side2 => exact (Kd.V_reads' HO0_0.out).2.1); rintro e w9 ⟨rfl, hb⟩; refine ⟨_, rfl, ?_⟩; have n0_ := A0_ (Kd.V_below (by (with_reducible repeat (first | apply Kd.V_alloc | apply Kd.V_drewN | apply Kd.V_drew)); exact HO0_0.out) hb); have n1_ := A0_ (Kd.V_below (by (with_reducible repeat (first | apply Kd.V_alloc | apply Kd.V_drewN | apply Kd.V_drew)); exact HO0_1.out) hb); have n2_ := A0_ (kB (g := gb250) (o := .cells #[.slice A0_0 l0_0.length c0_0, .slice A0_1 l0_1.length c0_1] 29 (0, 0)) (by (with_reducible repeat (first | refine kN ?_ _ | refine kD ?_ | refine kA ?_ _)); exact BK250.out) hb); have n3_ := A0_ (bT (by repeat (first | (with_reducible first | exact HB.out | apply bA | apply bN | apply bD | refine bS ?_ GE250.out) | exact HB.out)) hb); clear HO0_0; clear HO0_1; clear BK250; clear HB; have HO0_0 := n0_; have HO0_1 := n1_; have BK250 := n2_; have HB := n3_; clear n0_ n1_ n2_ n3_; (try clear hb); (try clear hb2); (try clear hk); (try clear hi); have hcz10_0 : w9.cell? ⟨gb250, 0, none⟩ = some (.slice A0_0 l0_0.length c0_0) := (kC BK250.out 0).trans rfl; have hcz10_1 : w9.cell? ⟨gb250, 1, none⟩ = some (.slice A0_1 l0_1.length c0_1) := (kC BK250.out 1).trans rfl; have hfz10_0 := kF BK250.out 0; have hfz10_1 := kF BK250.out 1) | (go_at_call 60; (with_reducible refine (impl_PermValid.calls _ _ l0_1 true _ ?side1 ?side2 A6.out).mono ?_); (case side1 => repeat (first | exact (Kd.V_reads' HO0_1.out).2.2 | (with_reducible refine cA ?_ _) | (with_reducible refine cN ?_ _) | (with_reducible refine cD ?_))); (case side2 => exact (Kd.V_reads' HO0_1.out).2.1); rintro e w11 ⟨rfl, hb⟩; have n0_ := A0_ (Kd.V_below (by (with_reducible repeat (first | apply Kd.V_alloc | apply Kd.V_drewN | apply Kd.V_drew)); exact HO0_0.out) hb); have n1_ := A0_ (Kd.V_below (by (with_reducible repeat (first | apply Kd.V_alloc | apply Kd.V_drewN | apply Kd.V_drew)); exact HO0_1.out) hb); have n2_ := A0_ (kB (g := gb250) (o := .cells #[.slice A0_0 l0_0.length c0_0, .slice A0_1 l0_1.length c0_1] 29 (0, 0)) (by (with_reducible repeat (first | refine kN ?_ _ | refine kD ?_ | refine kA ?_ _)); exact BK250.out) hb); have n3_ := A0_ (bT (by repeat (first | (with_reducible first | exact HB.out | apply bA | apply bN | apply bD | refine bS ?_ GE250.out) | exact HB.out)) hb); clear HO0_0; clear HO0_1; clear BK250; clear HB; have HO0_0 := n0_; have HO0_1 := n1_; have BK250 := n2_; have HB := n3_; clear n0_ n1_ n2_ n3_; (try clear hb); (try clear hb2); (try clear hk); (try clear hi); have hcz12_0 : w11.cell? ⟨gb250, 0, none⟩ = some (.slice A0_0 l0_0.length c0_0) := (kC BK250.out 0).trans rfl; have hcz12_1 : w11.cell? ⟨gb250, 1, none⟩ = some (.slice A0_1 l0_1.length c0_1) := (kC BK250.out 1).trans rfl; have hfz12_0 := kF BK250.out 0; have hfz12_1 := kF BK250.out 1))
    go_meet
    case rel => exact ⟨_, (((l0_0.length : Int) != (l0_1.length : Int))), (by first | rfl | (simp; done) | (simp [*]; done)), H', ⟨by first | omega | exact Nat.le_refl _⟩, ⟨by (with_reducible repeat (first | apply Kd.V_alloc | apply Kd.V_drewN | apply Kd.V_drew)); exact HO0_0.out⟩, ⟨by (with_reducible repeat (first | apply Kd.V_alloc | apply Kd.V_drewN | apply Kd.V_drew)); exact HO0_1.out⟩, ⟨by (with_reducible repeat (first | refine kN ?_ _ | refine kD ?_ | refine kA ?_ _)); exact BK250.out⟩, ⟨by repeat (first | (with_reducible first | exact HB.out | apply bA | apply bN | apply bD | refine bS ?_ GE250.out) | exact HB.out)⟩⟩
   ·replace c7 := Bool.eq_false_iff.mpr c7
    subst c7
    have H1 : (impl_MapValid.j0 k true l0_0 l0_1) = some r := by rw [if_neg (show ¬ (false = true) by decide)] at H; exact H
    clear H
    have H := H1
    clear H1
    have H' := A0_ H
    clear H
    have hcz13_0 : w3.cell? ⟨gb250, 0, none⟩ = some (.slice A0_0 l0_0.length c0_0) := (kC BK250.out 0).trans rfl
    have hcz13_1 : w3.cell? ⟨gb250, 1, none⟩ = some (.slice A0_1 l0_1.length c0_1) := (kC BK250.out 1).trans rfl
    have hfz13_0 := kF BK250.out 0
    have hfz13_1 := kF BK250.out 1
    go_wp2_with (first | ((with_reducible refine gC (f := 60) rfl ?_); refine goesL_ (some 7) rfl rfl Try.func60 (by kernel_rfl) rfl #[.slice A0_0 l0_0.length c0_0] rfl (by (try simp only [List.map_toArray, List.map_cons, List.map_nil]); first | done | rfl) ?_; (with_reducible refine (impl_PermValid.calls _ _ l0_0 true _ ?side1 ?side2 A4.out).mono ?_); (case side1 => repeat (first | exact (Kd.V_reads' HO0_0.out).2.2 | (with_reducible refine cA ?_ _) | (with_reducible refine cN ?_ _) | (with_reducible refine cD ?_))); (case side2 => exact (Kd.V_reads' HO0_0.out).2.1); rintro e w14 ⟨rfl, hb⟩; refine ⟨_, rfl, ?_⟩; have n0_ := A0_ (Kd.V_below (by (with_reducible repeat (first | apply Kd.V_alloc | apply Kd.V_drewN | apply Kd.V_drew)); exact HO0_0.out) hb); have n1_ := A0_ (Kd.V_below (by (with_reducible repeat (first | apply Kd.V_alloc | apply Kd.V_drewN | apply Kd.V_drew)); exact HO0_1.out) hb); have n2_ := A0_ (kB (g := gb250) (o := .cells #[.slice A0_0 l0_0.length c0_0, .slice A0_1 l0_1.length c0_1] 29 (0, 0)) (by (with_reducible repeat (first | refine kN ?_ _ | refine kD ?_ | refine kA ?_ _)); exact BK250.out) hb); have n3_ := A0_ (bT (by repeat (first | (with_reducible first | exact HB.out | apply bA | apply bN | apply bD | refine bS ?_ GE250.out) | exact HB.out)) hb); clear HO0_0; clear HO0_1; clear BK250; clear HB; have HO0_0 := n0_; have HO0_1 := n1_; have BK250 := n2_; have HB := n3_; clear n0_ n1_ n2_ n3_; (try clear hb); (try clear hb2); (try clear hk); (try clear hi); have hcz15_0 : w14.cell? ⟨gb250, 0, none⟩ = some (.slice A0_0 l0_0.length c0_0) := (kC BK250.out 0).trans rfl; have hcz15_1 : w14.cell? ⟨gb250, 1, none⟩ = some (.slice A0_1 l0_1.length c0_1) := (kC BK250.out 1).trans rfl; have hfz15_0 := kF BK250.out 0; have hfz15_1 := kF BK250.out 1) | (go_at_call 60; (with_reducible refine (impl_PermValid.calls _ _ l0_1 false _ ?side1 ?side2 A6.out).mono ?_); (case side1 => repeat (first | exact (Kd.V_reads' HO0_1.out).2.2 | (with_reducible refine cA ?_ _) | (with_reducible refine cN ?_ _) | (with_reducible refine cD ?_))); (case side2 => exact (Kd.V_reads' HO0_1.out).2.1); rintro e w16 ⟨rfl, hb⟩; have n0_ := A0_ (Kd.V_below (by (with_reducible repeat (first | apply Kd.V_alloc | apply Kd.V_drewN | apply Kd.V_drew)); exact HO0_0.out) hb); have n1_ := A0_ (Kd.V_below (by (with_reducible repeat (first | apply Kd.V_alloc | apply Kd.V_drewN | apply Kd.V_drew)); exact HO0_1.out) hb); have n2_ := A0_ (kB (g := gb250) (o := .cells #[.slice A0_0 l0_0.length c0_0, .slice A0_1 l0_1.length c0_1] 29 (0, 0)) (by (with_reducible repeat (first | refine kN ?_ _ | refine kD ?_ | refine kA ?_ _)); exact BK250.out) hb); have n3_ := A0_ (bT (by repeat (first | (with_reducible first | exact HB.out | apply bA | apply bN | apply bD | refine bS ?_ GE250.out) | exact HB.out)) hb); clear HO0_0; clear HO0_1; clear BK250; clear HB; have HO0_0 := n0_; have HO0_1 := n1_; have BK250 := n2_; have HB := n3_; clear n0_ n1_ n2_ n3_; (try clear hb); (try clear hb2); (try clear hk); (try clear hi)))
    go_meet
    case rel => exact ⟨_, (true), (by first | rfl | (simp; done) | (simp [*]; done)), H', ⟨by first | omega | exact Nat.le_refl _⟩, ⟨by (with_reducible repeat (first | apply Kd.V_alloc | apply Kd.V_drewN | apply Kd.V_drew)); exact HO0_0.out⟩, ⟨by (with_reducible repeat (first | apply Kd.V_alloc | apply Kd.V_drewN | apply Kd.V_drew)); exact HO0_1.out⟩, ⟨by (with_reducible repeat (first | refine kN ?_ _ | refine kD ?_ | refine kA ?_ _)); exact BK250.out⟩, ⟨by repeat (first | (with_reducible first | exact HB.out | apply bA | apply bN | apply bD | refine bS ?_ GE250.out) | exact HB.out)⟩⟩
  ·replace c5 := Bool.eq_false_iff.mpr c5
   subst c5
   have H1 : (impl_MapValid.j0 k true l0_0 l0_1) = some r := by rw [if_neg (show ¬ (false = true) by decide)] at H; exact H
   clear H
   have H := H1
   clear H1
   have H' := A0_ H
   clear H
   have hcz17_0 : w3.cell? ⟨gb250, 0, none⟩ = some (.slice A0_0 l0_0.length c0_0) := (kC BK250.out 0).trans rfl
   have hcz17_1 : w3.cell? ⟨gb250, 1, none⟩ = some (.slice A0_1 l0_1.length c0_1) := (kC BK250.out 1).trans rfl
   have hfz17_0 := kF BK250.out 0
   have hfz17_1 := kF BK250.out 1
   go_wp2_with (first | ((with_reducible refine gC (f := 60) rfl ?_); refine goesL_ (some 7) rfl rfl Try.func60 (by kernel_rfl) rfl #[.slice A0_0 l0_0.length c0_0] rfl (by (try simp only [List.map_toArray, List.map_cons, List.map_nil]); first | done | rfl) ?_; (with_reducible refine (impl_PermValid.calls _ _ l0_0 false _ ?side1 ?side2 A4.out).mono ?_); (case side1 => repeat (first | exact (Kd.V_reads' HO0_0.out).2.2 | (with_reducible refine cA ?_ _) | (with_reducible refine cN ?_ _) | (with_reducible refine cD ?_))); (case side2 => exact (Kd.V_reads' HO0_0.out).2.1); rintro e w18 ⟨rfl, hb⟩; refine ⟨_, rfl, ?_⟩; have n0_ := A0_ (Kd.V_below (by (with_reducible repeat (first | apply Kd.V_alloc | apply Kd.V_drewN | apply Kd.V_drew)); exact HO0_0.out) hb); have n1_ := A0_ (Kd.V_below (by (with_reducible repeat (first | apply Kd.V_alloc | apply Kd.V_drewN | apply Kd.V_drew)); exact HO0_1.out) hb); have n2_ := A0_ (kB (g := gb250) (o := .cells #[.slice A0_0 l0_0.length c0_0, .slice A0_1 l0_1.length c0_1] 29 (0, 0)) (by (with_reducible repeat (first | refine kN ?_ _ | refine kD ?_ | refine kA ?_ _)); exact BK250.out) hb); have n3_ := A0_ (bT (by repeat (first | (with_reducible first | exact HB.out | apply bA | apply bN | apply bD | refine bS ?_ GE250.out) | exact HB.out)) hb); clear HO0_0; clear HO0_1; clear BK250; clear HB; have HO0_0 := n0_; have HO0_1 := n1_; have BK250 := n2_; have HB := n3_; clear n0_ n1_ n2_ n3_; (try clear hb); (try clear hb2); (try clear hk); (try clear hi)))
   go_meet
   case rel => exact ⟨_, (true), (by first | rfl | (simp; done) | (simp [*]; done)), H', ⟨by first | omega | exact Nat.le_refl _⟩, ⟨by (with_reducible repeat (first | apply Kd.V_alloc | apply Kd.V_drewN | apply Kd.V_drew)); exact HO0_0.out⟩, ⟨by (with_reducible repeat (first | apply Kd.V_alloc | apply Kd.V_drewN | apply Kd.V_drew)); exact HO0_1.out⟩, ⟨by (with_reducible repeat (first | refine kN ?_ _ | refine kD ?_ | refine kA ?_ _)); exact BK250.out⟩, ⟨by repeat (first | (with_reducible first | exact HB.out | apply bA | apply bN | apply bD | refine bS ?_ GE250.out) | exact HB.out)⟩⟩
 case rest =>
  clear HC2
  try clear p2
  try clear c5
  try clear c6
  try clear c7
  try clear hcz10_0
  try clear hcz10_1
  try clear hcz12_0
  try clear hcz12_1
  try clear hcz13_0
  try clear hcz13_1
  try clear hcz15_0
  try clear hcz15_1
  try clear hcz17_0
  try clear hcz17_1
  try clear hcz8_0
  try clear hcz8_1
  try clear hfz10_0
  try clear hfz10_1
  try clear hfz12_0
  try clear hfz12_1
  try clear hfz13_0
  try clear hfz13_1
  try clear hfz15_0
  try clear hfz15_1
  try clear hfz17_0
  try clear hfz17_1
  try clear hfz8_0
  try clear hfz8_1
  obtain ⟨kq, x23_1, rfl, HA, HJ1, HO_251000, HO_251001, BK250, HB⟩ := hcut
  cases kq with
  | zero => exact absurd HA.out (by simp [impl_MapValid.j0])
  | succ kj1 =>
   have H := HA.out
   clear HA
   simp only [impl_MapValid.j0] at H
   by_cases c19 : x23_1 = true
   ·subst c19
    have H1 : (some false) = some r := by rw [if_pos rfl] at H; exact H
    clear H
    have H := H1
    clear H1
    obtain rfl := sI H
    go_wp2
    go_ret
    exact ⟨by first | rfl | (simp [*] <;> rfl), by repeat (first | (with_reducible first | exact HB.out | apply bA | apply bN | apply bD | refine bS ?_ GE250.out) | exact HB.out)⟩
   ·replace c19 := Bool.eq_false_iff.mpr c19
    subst c19
    have H1 : (impl_MapValid.l0 kj1 l0_1 (l0_1.length : Int) 0 l0_0 l0_1) = some r := by rw [if_neg (show ¬ (false = true) by decide)] at H; exact H
    clear H
    have H := H1
    clear H1
    have H' := A0_ H
    clear H
    have hcz20_0 : wc.cell? ⟨gb250, 0, none⟩ = some (.slice A0_0 l0_0.length c0_0) := (kC BK250.out 0).trans rfl
    have hcz20_1 : wc.cell? ⟨gb250, 1, none⟩ = some (.slice A0_1 l0_1.length c0_1) := (kC BK250.out 1).trans rfl
    have hfz20_0 := kF BK250.out 0
    have hfz20_1 := kF BK250.out 1
    go_wp2
    go_loopg [27] kj1 (fun kq v27 w' => ∃ (x27_2 : Int), v27 = .int .i64 x27_2 ∧ Aside0 (impl_MapValid.l0 kq l0_1 (l0_1.length : Int) x27_2 l0_0 l0_1 = some r) ∧ Aside0 (kq ≤ kj1) ∧ Aside0 (Kd.V (Kd.int .i64) 3 w' w.heap.size (fun k_ => ((P0_0_ k_ ∨ P0_1_ k_) ∨ w.heap.size ≤ k_) ∧ k_ ≠ gb250) (.slice A0_1 l0_1.length c0_1) l0_1) ∧ Aside0 (Kd.V (Kd.int .i64) 3 w' w.heap.size (fun k_ => ((P0_0_ k_ ∨ P0_1_ k_) ∨ w.heap.size ≤ k_) ∧ k_ ≠ gb250) (.slice A0_0 l0_0.length c0_0) l0_0) ∧ Aside0 (Kd.V (Kd.int .i64) 3 w' w.heap.size (fun k_ => ((P0_0_ k_ ∨ P0_1_ k_) ∨ w.heap.size ≤ k_) ∧ k_ ≠ gb250) (.slice A0_1 l0_1.length c0_1) l0_1) ∧ Aside0 (w'.heap[gb250]? = some (.cells #[(.slice A0_0 l0_0.length c0_0), (.slice A0_1 l0_1.length c0_1)] 29 (0, 0))) ∧ Aside0 (Below w.heap.size w w'))
    case atStart => exact ⟨(0), (by first | rfl | (simp; done) | (simp [*]; done)), H', ⟨Nat.le_refl _⟩, ⟨by (with_reducible repeat (first | apply Kd.V_alloc | apply Kd.V_drewN | apply Kd.V_drew)); exact HO_251001.out⟩, ⟨by (with_reducible repeat (first | apply Kd.V_alloc | apply Kd.V_drewN | apply Kd.V_drew)); exact HO_251000.out⟩, ⟨by (with_reducible repeat (first | apply Kd.V_alloc | apply Kd.V_drewN | apply Kd.V_drew)); exact HO_251001.out⟩, ⟨by (with_reducible repeat (first | refine kN ?_ _ | refine kD ?_ | refine kA ?_ _)); exact BK250.out⟩, ⟨by repeat (first | (with_reducible first | exact HB.out | apply bA | apply bN | apply bD | refine bS ?_ GE250.out) | exact HB.out)⟩⟩
    case round =>
     clear H'
     try clear c1
     try clear p2
     try clear c5
     try clear c6
     try clear c7
     try clear c19
     try clear hcz10_0
     try clear hcz10_1
     try clear hcz12_0
     try clear hcz12_1
     try clear hcz13_0
     try clear hcz13_1
     try clear hcz15_0
     try clear hcz15_1
     try clear hcz17_0
     try clear hcz17_1
     try clear hcz20_0
     try clear hcz20_1
     try clear hcz8_0
     try clear hcz8_1
     try clear hfz10_0
     try clear hfz10_1
     try clear hfz12_0
     try clear hfz12_1
     try clear hfz13_0
     try clear hfz13_1
     try clear hfz15_0
     try clear hfz15_1
     try clear hfz17_0
     try clear hfz17_1
     try clear hfz20_0
     try clear hfz20_1
     try clear hfz8_0
     try clear hfz8_1
     try clear p2
     obtain ⟨x27_2, rfl, HA, HK2, HO_25, HO_251000, HO_251001, BK250, HB⟩ := hrel
     cases gk with
     | zero => exact absurd HA.out (by simp [impl_MapValid.l0])
     | succ k2 =>
      have H := HA.out
      clear HA
      simp only [impl_MapValid.l0] at H
      by_cases c21 : x27_2 < (l0_1.length : Int)
      ·rw [if_pos c21] at H
       have c21b0 : decide (x27_2 < (l0_1.length : Int)) = true := dT c21
       clear c21
       by_cases c22 : 0 ≤ x27_2
       ·rw [if_pos c22] at H
        have c22b0 : decide (0 ≤ x27_2) = true := dT c22
        clear c22
        by_cases c23 : x27_2 < (l0_1.length : Int)
        ·rw [if_pos c23] at H
         have c23b0 : decide (x27_2 < (l0_1.length : Int)) = true := dT c23
         clear c23
         by_cases c24 : (rd l0_1 x27_2) = x27_2
         ·rw [if_pos c24] at H
          have c24b0 : ((rd l0_1 x27_2) == x27_2) = true := beq_iff_eq.mpr c24
          have c24b1 : ((rd l0_1 x27_2) != x27_2) = false := bne_eq_false_iff_eq.mpr c24
          clear c24
          obtain rfl := sI H
          have p253 : 0 ≤ (x27_2 : Int) := oD (by assumption)
          have q253 : x27_2 < (l0_1.length : Int) := oD (by assumption)
          obtain ⟨ad253, e253, hx253_0⟩ := tI (Kd.V_reads' HO_25.out).2.2 x27_2 p253 q253
          cases e253
          replace p253 := eq_true p253
          replace q253 := eq_true q253
          go_wp2
          go_ret
          exact ⟨by first | rfl | (simp [*] <;> rfl), by repeat (first | (with_reducible first | exact HB.out | apply bA | apply bN | apply bD | refine bS ?_ GE250.out) | exact HB.out)⟩
         ·rw [if_neg c24] at H
          have c24b0 : ((rd l0_1 x27_2) == x27_2) = false := beq_eq_false_iff_ne.mpr c24
          have c24b1 : ((rd l0_1 x27_2) != x27_2) = true := bne_iff_ne.mpr c24
          by_cases c25 : 0 ≤ (rd l0_1 x27_2)
          ·rw [if_pos c25] at H
           have c25b0 : decide (0 ≤ (rd l0_1 x27_2)) = true := dT c25
           clear c25
           by_cases c26 : (rd l0_1 x27_2) < (l0_1.length : Int)
           ·rw [if_pos c26] at H
            have c26b0 : decide ((rd l0_1 x27_2) < (l0_1.length : Int)) = true := dT c26
            clear c26
            by_cases c27 : (rd l0_1 (rd l0_1 x27_2)) = x27_2
            ·rw [if_pos c27] at H
             have c27b0 : ((rd l0_1 (rd l0_1 x27_2)) == x27_2) = true := beq_iff_eq.mpr c27
             have c27b1 : ((rd l0_1 (rd l0_1 x27_2)) != x27_2) = false := bne_eq_false_iff_eq.mpr c27
             clear c27
             have H' := A0_ H
             clear H
             have p253 : 0 ≤ (x27_2 : Int) := oD (by assumption)
             have q253 : x27_2 < (l0_1.length : Int) := oD (by assumption)
             obtain ⟨ad253, e253, hx253_0⟩ := tI (Kd.V_reads' HO_25.out).2.2 x27_2 p253 q253
             cases e253
             replace p253 := eq_true p253
             replace q253 := eq_true q253
             have hcz28_0 : wr.cell? ⟨gb250, 0, none⟩ = some (.slice A0_0 l0_0.length c0_0) := (kC BK250.out 0).trans rfl
             have hcz28_1 : wr.cell? ⟨gb250, 1, none⟩ = some (.slice (some ad253) l0_1.length c0_1) := (kC BK250.out 1).trans rfl
             have hfz28_0 := kF BK250.out 0
             have hfz28_1 := kF BK250.out 1
             have p254 : 0 ≤ ((rd l0_1 x27_2) : Int) := oD (by assumption)
             have q254 : (rd l0_1 x27_2) < (l0_1.length : Int) := oD (by assumption)
             obtain ⟨ad254, e254, hx254_0⟩ := tI (Kd.V_reads' HO_251001.out).2.2 (rd l0_1 x27_2) p254 q254
             obtain rfl : ad253 = ad254 := (by injection e254)
             replace p254 := eq_true p254
             replace q254 := eq_true q254
             go_wp2
             go_roundg k2
             case measure => have := HJ1.out; have := HK2.out; omega
             case rel => exact ⟨(wrap64 (x27_2 + 1)), (by first | rfl | (simp; done) | (simp [*]; done)), H', ⟨by have := HJ1.out; have := HK2.out; omega⟩, ⟨by (with_reducible repeat (first | apply Kd.V_alloc | apply Kd.V_drewN | apply Kd.V_drew)); exact HO_25.out⟩, ⟨by (with_reducible repeat (first | apply Kd.V_alloc | apply Kd.V_drewN | apply Kd.V_drew)); exact HO_251000.out⟩, ⟨by (with_reducible repeat (first | apply Kd.V_alloc | apply Kd.V_drewN | apply Kd.V_drew)); exact HO_251001.out⟩, ⟨by (with_reducible repeat (first | refine kN ?_ _ | refine kD ?_ | refine kA ?_ _)); exact BK250.out⟩, ⟨by repeat (first | (with_reducible first | exact HB.out | apply bA | apply bN | apply bD | refine bS ?_ GE250.out) | exact HB.out)⟩⟩
            ·rw [if_neg c27] at H
             have c27b0 : ((rd l0_1 (rd l0_1 x27_2)) == x27_2) = false := beq_eq_false_iff_ne.mpr c27
             have c27b1 : ((rd l0_1 (rd l0_1 x27_2)) != x27_2) = true := bne_iff_ne.mpr c27
             obtain rfl := sI H
             have p253 : 0 ≤ (x27_2 : Int) := oD (by assumption)
             have q253 : x27_2 < (l0_1.length : Int) := oD (by assumption)
             obtain ⟨ad253, e253, hx253_0⟩ := tI (Kd.V_reads' HO_25.out).2.2 x27_2 p253 q253
             cases e253
             replace p253 := eq_true p253
             replace q253 := eq_true q253
             have hcz29_0 : wr.cell? ⟨gb250, 0, none⟩ = some (.slice A0_0 l0_0.length c0_0) := (kC BK250.out 0).trans rfl
             have hcz29_1 : wr.cell? ⟨gb250, 1, none⟩ = some (.slice (some ad253) l0_1.length c0_1) := (kC BK250.out 1).trans rfl
             have hfz29_0 := kF BK250.out 0
             have hfz29_1 := kF BK250.out 1
             have p254 : 0 ≤ ((rd l0_1 x27_2) : Int) := oD (by assumption)
             have q254 : (rd l0_1 x27_2) < (l0_1.length : Int) := oD (by assumption)
             obtain ⟨ad254, e254, hx254_0⟩ := tI (Kd.V_reads' HO_251001.out).2.2 (rd l0_1 x27_2) p254 q254
             obtain rfl : ad253 = ad254 := (by injection e254)
             replace p254 := eq_true p254
             replace q254 := eq_true q254
             go_wp2
             go_ret
             exact ⟨by first | rfl | (simp [*] <;> rfl), by repeat (first | (with_reducible first | exact HB.out | apply bA | apply bN | apply bD | refine bS ?_ GE250.out) | exact HB.out)⟩
           ·rw [if_neg c26] at H
            exact absurd H (by simp)
          ·rw [if_neg c25] at H
           exact absurd H (by simp)
        ·rw [if_neg c23] at H
         exact absurd H (by simp)
       ·rw [if_neg c22] at H
        exact absurd H (by simp)
      ·rw [if_neg c21] at H
       have c21b0 : decide (x27_2 < (l0_1.length : Int)) = false := dF c21
       clear c21
       obtain ⟨y255, hy255⟩ : ∃ y_ : List (List Int), y_ = (([l0_0, l0_1] : List (List Int))) := ⟨_, rfl⟩
       replace H : ((impl_orbits.f k2 y255).bind fun t258 => ((slices_Max_int_int.f t258).bind fun t261 => (some (t261 == 0)))) = some r := by first | (rw [hy255]; with_reducible exact H) | (have H2_ := (Option.bind_some _ _).symm.trans H; rw [hy255]; with_reducible exact H2_) | (have H2_ := (Option.bind_some _ _).symm.trans H; with_reducible exact H2_) | with_reducible exact H | (rw [hy255]; exact H) | exact H
       have Ny255 := A0_ hy255
       clear hy255
       replace H := Option.bind_eq_some_iff.mp H
       obtain ⟨t258, A300, H⟩ := H
       replace H : ((slices_Max_int_int.f t258).bind fun t261 => (some (t261 == 0))) = some r := H
       have A30 := A0_ A300
       clear A300
       replace H := Option.bind_eq_some_iff.mp H
       obtain ⟨t261, A310, H⟩ := H
       replace H : (some (t261 == 0)) = some r := H
       have A31 := A0_ A310
       clear A310
       obtain rfl := sI H
       have hcz32_0 : wr.cell? ⟨gb250, 0, none⟩ = some (.slice A0_0 l0_0.length c0_0) := (kC BK250.out 0).trans rfl
       have hcz32_1 : wr.cell? ⟨gb250, 1, none⟩ = some (.slice A0_1 l0_1.length c0_1) := (kC BK250.out 1).trans rfl
       have hfz32_0 := kF BK250.out 0
       have hfz32_1 := kF BK250.out 1
       go_wp2_with (first | ((with_reducible refine gD (N := 49) rfl ?_); refine Kd.N_lit (Kd.slice 3 (Kd.int .i64)) _ 22 ?hg (N' := 49) ?hd (xs := ([l0_0, l0_1] : List (List Int))) (inner := [.slice A0_0 l0_0.length c0_0, .slice A0_1 l0_1.length c0_1]) (ok := (fun k_ => ((P0_0_ k_ ∨ P0_1_ k_) ∨ w.heap.size ≤ k_) ∧ k_ ≠ gb250)) (okp := (fun k_ => ((P0_0_ k_ ∨ P0_1_ k_) ∨ w.heap.size ≤ k_) ∧ k_ ≠ gb250)) ?hr ?hp (fun _ hk => hk) ((show ∀ k_, wr.heap.size ≤ k_ → (fun k_ => ((P0_0_ k_ ∨ P0_1_ k_) ∨ w.heap.size ≤ k_) ∧ k_ ≠ gb250) k_ from fun k_ hk => ⟨(.inr (Nat.le_trans (bZ (by repeat (first | (with_reducible first | exact HB.out | apply bA | apply bN | apply bD | refine bS ?_ GE250.out) | exact HB.out))) hk)), Kd.freshB (g := gb250) (o := .cells #[.slice A0_0 l0_0.length c0_0, .slice A0_1 l0_1.length c0_1] 29 (0, 0)) (by (with_reducible repeat (first | refine kN ?_ _ | refine kD ?_ | refine kA ?_ _)); exact BK250.out) k_ hk⟩) _ (Nat.le_refl _)) (Below.refl _ _) (Nat.le_refl _) (by simp) ?_; (case hd => rfl); (case hg => rfl); (case hr => first | (go_simp; done) | (go_simp; rfl)); (case hp => exact (Reps.one (show Kd.FK (Kd.slice 3 (Kd.int .i64)) _ _ l0_0 [.slice A0_0 l0_0.length c0_0] from (Kd.FK_slice_mk (Kd.V_reads' (Kd.V_mono (ok' := (fun k_ => ((P0_0_ k_ ∨ P0_1_ k_) ∨ w.heap.size ≤ k_) ∧ k_ ≠ gb250)) (HO_251000.out) (fun k_ hk => ⟨hk.1, hk.2⟩))).2.1 (Kd.V_F (Kd.V_mono (ok' := (fun k_ => ((P0_0_ k_ ∨ P0_1_ k_) ∨ w.heap.size ≤ k_) ∧ k_ ≠ gb250)) (HO_251000.out) (fun k_ hk => ⟨hk.1, hk.2⟩))))) (Reps.one (show Kd.FK (Kd.slice 3 (Kd.int .i64)) _ _ l0_1 [.slice A0_1 l0_1.length c0_1] from (Kd.FK_slice_mk (Kd.V_reads' (Kd.V_mono (ok' := (fun k_ => ((P0_0_ k_ ∨ P0_1_ k_) ∨ w.heap.size ≤ k_) ∧ k_ ≠ gb250)) (HO_251001.out) (fun k_ hk => ⟨hk.1, hk.2⟩))).2.1 (Kd.V_F (Kd.V_mono (ok' := (fun k_ => ((P0_0_ k_ ∨ P0_1_ k_) ∨ w.heap.size ≤ k_) ∧ k_ ≠ gb250)) (HO_251001.out) (fun k_ hk => ⟨hk.1, hk.2⟩))))) (Reps.none _ _)))); intro v256 w33 ho34 hb hg_ hnew_; clear hg_ hnew_; (first | rw [← Ny255.out] at ho34 | (simp only [Int.reduceToNat] at ho34; rw [← Ny255.out] at ho34)); have n0_ := A0_ (Kd.V_elder' (by (with_reducible repeat (first | apply Kd.V_alloc | apply Kd.V_drewN | apply Kd.V_drew)); exact HO_25.out) (Kd.N_base ho34) hb); have n1_ := A0_ (Kd.V_elder' (by (with_reducible repeat (first | apply Kd.V_alloc | apply Kd.V_drewN | apply Kd.V_drew)); exact HO_251000.out) (Kd.N_base ho34) hb); have n2_ := A0_ (Kd.V_elder' (by (with_reducible repeat (first | apply Kd.V_alloc | apply Kd.V_drewN | apply Kd.V_drew)); exact HO_251001.out) (Kd.N_base ho34) hb); have n3_ := A0_ (Kd.N_lower ho34 (bZ (by repeat (first | (with_reducible first | exact HB.out | apply bA | apply bN | apply bD | refine bS ?_ GE250.out) | exact HB.out)))); have n4_ := A0_ (kB (g := gb250) (o := .cells #[.slice A0_0 l0_0.length c0_0, .slice A0_1 l0_1.length c0_1] 29 (0, 0)) (by (with_reducible repeat (first | refine kN ?_ _ | refine kD ?_ | refine kA ?_ _)); exact BK250.out) hb); have n5_ := A0_ (bT (by repeat (first | (with_reducible first | exact HB.out | apply bA | apply bN | apply bD | refine bS ?_ GE250.out) | exact HB.out)) hb); clear HO_25; clear HO_251000; clear HO_251001; clear BK250; clear HB; have HO_25 := n0_; have HO_251000 := n1_; have HO_251001 := n2_; have HO257 := n3_; have BK250 := n4_; have HB := n5_; clear n0_ n1_ n2_ n3_ n4_ n5_; clear hb ho34; obtain ⟨Ao35, co35, eo35⟩ := Kd.N_slice HO257.out; subst eo35) | ((with_reducible refine gC (f := 99) rfl ?_); refine goesL_ (some 50) rfl rfl Try.func99 (by kernel_rfl) rfl #[.slice Ao35 y255.length co35] rfl (by (try simp only [List.map_toArray, List.map_cons, List.map_nil]); first | done | rfl) ?_; (with_reducible refine (impl_orbits.calls k2 _ _ y255 t258 _ ?side1 ?side2 A30.out).mono ?_); (case side1 => repeat (first | exact (Kd.N_reads' HO257.out).2.2 | (with_reducible refine cA ?_ _) | (with_reducible refine cN ?_ _) | (with_reducible refine cD ?_))); (case side2 => exact (Kd.N_reads' HO257.out).2.1); rintro e w36 ⟨v259, rfl, ho0, hb⟩; refine ⟨_, rfl, ?_⟩; have n0_ := A0_ (Kd.V_elder' (by (with_reducible repeat (first | apply Kd.V_alloc | apply Kd.V_drewN | apply Kd.V_drew)); exact HO_25.out) (Kd.R_base ho0) hb); have n1_ := A0_ (Kd.V_elder' (by (with_reducible repeat (first | apply Kd.V_alloc | apply Kd.V_drewN | apply Kd.V_drew)); exact HO_251000.out) (Kd.R_base ho0) hb); have n2_ := A0_ (Kd.V_elder' (by (with_reducible repeat (first | apply Kd.V_alloc | apply Kd.V_drewN | apply Kd.V_drew)); exact HO_251001.out) (Kd.R_base ho0) hb); have n3_ := A0_ (Kd.N_elder' (by (with_reducible repeat (first | apply Kd.N_alloc | apply Kd.N_drewN | apply Kd.N_drew)); exact HO257.out) (Kd.R_base ho0) hb); have n4_ := A0_ (rL (Kd.R_newM (M := fun k_ => (w.heap.size ≤ k_)) ho0 (bZ (by repeat (first | (with_reducible first | exact HB.out | apply bA | apply bN | apply bD | refine bS ?_ GE250.out) | exact HB.out))) (fun k_ h_ => h_)) (bZ (by repeat (first | (with_reducible first | exact HB.out | apply bA | apply bN | apply bD | refine bS ?_ GE250.out) | exact HB.out)))); have n5_ := A0_ (kB (g := gb250) (o := .cells #[.slice A0_0 l0_0.length c0_0, .slice A0_1 l0_1.length c0_1] 29 (0, 0)) (by (with_reducible repeat (first | refine kN ?_ _ | refine kD ?_ | refine kA ?_ _)); exact BK250.out) hb); have n6_ := A0_ (bT (by repeat (first | (with_reducible first | exact HB.out | apply bA | apply bN | apply bD | refine bS ?_ GE250.out) | exact HB.out)) hb); clear HO_25; clear HO_251000; clear HO_251001; clear HO257; clear BK250; clear HB; have HO_25 := n0_; have HO_251000 := n1_; have HO_251001 := n2_; have HO257 := n3_; have HO260 := n4_; have BK250 := n5_; have HB := n6_; clear n0_ n1_ n2_ n3_ n4_ n5_ n6_; (try clear hb); (try clear hb2); (try clear hk); (try clear hi); (try clear ho0); obtain ⟨Ao37, co37, eo37⟩ := rS HO260.out; subst eo37) | ((with_reducible refine gC (f := 98) rfl ?_); refine goesL_ (some 51) rfl rfl Try.func98 (by kernel_rfl) rfl #[.slice Ao37 t258.length co37] rfl (by (try simp only [List.map_toArray, List.map_cons, List.map_nil]); first | done | rfl) ?_; (with_reducible refine (slices_Max_int_int.calls _ _ t258 t261 _ ?side1 ?side2 A31.out).mono ?_); (case side1 => repeat (first | exact (rR HO260.out).2.2 | (with_reducible refine cA ?_ _) | (with_reducible refine cN ?_ _) | (with_reducible refine cD ?_))); (case side2 => exact (rR HO260.out).2.1); rintro e w' ⟨rfl, ⟨nd, rfl⟩⟩; refine ⟨_, rfl, ?_⟩))
       go_ret
       exact ⟨by first | rfl | (simp [*] <;> rfl), by repeat (first | (with_reducible first | exact HB.out | apply bA | apply bN | apply bD | refine bS ?_ GE250.out) | exact HB.out)⟩

end Go.Proofs.Ytmcgkckdnelcdaa.PFnExactCoverWhole
