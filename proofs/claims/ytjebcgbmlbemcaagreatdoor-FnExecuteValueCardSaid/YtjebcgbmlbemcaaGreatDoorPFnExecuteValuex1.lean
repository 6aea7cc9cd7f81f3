-- Made by a program of this session (wip/tools) out of the loaded program; not trusted: Lean checks it.
import Derived.Test.YtjebcgbmlbemcaaGreatDoorPFnExecuteValuex0
-- packed
namespace Go.Proofs.YtjebcgbmlbemcaaGreatDoor.PFnExecuteValue
open Go.RowKit Go.Proofs.YtjebcgbmlbemcaaGreatDoorW.PrintWords Go.Proofs.YtjebcgbmlbemcaaGreatDoorW.PrintLast Go.Proofs.YtjebcgbmlbemcaaGreatDoorW.PrintMore
attribute [local go_sem] max2_int min2_int max_two min_two max_three min_three max_four min_four   -- for this text's walks alone
set_option linter.unusedVariables false
set_option linter.unusedSimpArgs false

/-! ### impl_PermValid: function 58 -/
def impl_PermValid.fine (l : List Int) (i : Nat) : Prop := ∀ j : Nat, j < i → (0 ≤ rd l (j : Int) ∧ rd l (j : Int) < l.length) ∧ ∀ k : Nat, k < j → rd l (k : Int) ≠ rd l (j : Int)
instance (l : List Int) (i : Nat) : Decidable (impl_PermValid.fine l i) := by unfold impl_PermValid.fine; infer_instance
def impl_PermValid.met (l : List Int) (i : Nat) (x : Nat) : Bool := (List.range i).any (fun j => decide (rd l (j : Int) = (x : Int)))
def impl_PermValid.cells (l : List Int) (i : Nat) : Array Value := ((List.range 12).map (fun x => Value.bool (impl_PermValid.met l i x))).toArray
def impl_PermValid.val (l : List Int) : Bool := decide ((1 ≤ l.length ∧ l.length ≤ 12) ∧ impl_PermValid.fine l l.length)
def impl_PermValid.f (l0 : List Int) : Option Bool := some (impl_PermValid.val l0)
theorem impl_PermValid.met_succ (l : List Int) (i x : Nat) : impl_PermValid.met l (i + 1) x = (impl_PermValid.met l i x || decide (rd l (i : Int) = (x : Int))) := by
  unfold impl_PermValid.met; rw [List.range_succ, List.any_append]; simp
theorem impl_PermValid.met_iff {l : List Int} {i x : Nat} : impl_PermValid.met l i x = true ↔ ∃ k : Nat, k < i ∧ rd l (k : Int) = (x : Int) := by
  unfold impl_PermValid.met
  rw [List.any_eq_true]
  constructor
  · rintro ⟨k, hk, h⟩; exact ⟨k, List.mem_range.1 hk, oD h⟩
  rintro ⟨k, hk, h⟩; exact ⟨k, List.mem_range.2 hk, dT h⟩
theorem impl_PermValid.cells_get (l : List Int) (i : Nat) (x : Nat) (h : x < 12) : (impl_PermValid.cells l i)[x]? = some (.bool (impl_PermValid.met l i x)) := by
  unfold impl_PermValid.cells; simp [h]
theorem impl_PermValid.cells_set (l : List Int) (i : Nat) (n : Int) (h0 : 0 ≤ n) (h : n < 12) (hn : rd l (i : Int) = n) : (impl_PermValid.cells l i).setIfInBounds n.toNat (.bool true) = impl_PermValid.cells l (i + 1) := by
  apply Array.ext_getElem?
  intro q
  by_cases hq : q < 12
  · rw [impl_PermValid.cells_get l (i + 1) q hq, impl_PermValid.met_succ, hn, Array.getElem?_setIfInBounds]
    by_cases e : n.toNat = q
    · rw [if_pos e, if_pos (by simp [impl_PermValid.cells]; omega), dT (by omega), Bool.or_true]
    rw [if_neg e, impl_PermValid.cells_get l i q hq, dF (by omega), Bool.or_false]
  have h1 : ∀ i, (impl_PermValid.cells l i).size = 12 := fun i => by simp [impl_PermValid.cells]
  rw [Array.getElem?_eq_none (by rw [Array.size_setIfInBounds, h1]; omega), Array.getElem?_eq_none (by rw [h1]; omega)]
theorem impl_PermValid.val_bad (l : List Int) (i : Int) (h0 : 0 ≤ i) (h1 : i < l.length) (h : ¬ (0 ≤ rd l i ∧ rd l i < l.length ∧ ∀ k : Nat, (k : Int) < i → rd l (k : Int) ≠ rd l i)) : impl_PermValid.val l = false := by
  unfold impl_PermValid.val
  refine dF (fun ⟨_, hf⟩ => h ?_)
  have := hf i.toNat (by omega)
  rw [Int.toNat_of_nonneg h0] at this
  exact ⟨this.1.1, this.1.2, fun k hk => this.2 k (by omega)⟩
set_option maxHeartbeats 8000000 in
set_option maxRecDepth 100000 in
theorem impl_PermValid.wv_long (A0 : Option Addr) (c0 : Nat) (l0 : List Int) (w : World) (hr0 : Kd.C (Kd.int .i64) w A0 l0.length l0) (hc0 : l0.length ≤ c0) (hl1 : 1 ≤ l0.length) (hl2 : l0.length ≤ 12) :
    Calls Tryz.prog 58 #[.slice A0 l0.length c0] w fun e w' => e = .returned (.bool (impl_PermValid.val l0)) ∧ Below w.heap.size w w' := by
    have HR0 := A0_ hr0; have HC0 := A0_ hc0; clear hr0 hc0
    have b0 : decide ((l0.length : Int) < 1) = false := dF (by omega)
    have b1 : decide (12 < (l0.length : Int)) = false := dF (by omega)
    have HL := A0_ (And.intro hl1 hl2)
    clear hl1 hl2
    have HN : Aside0 (∀ i, (impl_PermValid.cells l0 i).size = 12) := ⟨fun i => by simp [impl_PermValid.cells]⟩
    have HZ : Aside0 (impl_PermValid.cells l0 0 = #[.bool false, .bool false, .bool false, .bool false, .bool false, .bool false, .bool false, .bool false, .bool false, .bool false, .bool false, .bool false]) := ⟨rfl⟩
    go_enter Tryz.func58, Tryz.ntmps58
    go_wp2
    go_loopw [17] (fun v17 wr => ∃ (i : Int), v17 = .int .i64 i ∧ Aside0 (0 ≤ i ∧ i ≤ (l0.length : Int)) ∧ Aside0 (impl_PermValid.fine l0 i.toNat) ∧ (∃ m, wr = (w.alloc (.cells (impl_PermValid.cells l0 i.toNat) 103)).drewN m)) (fun i _ => l0.length - (intOf i).toNat)
    case atStart => exact ⟨0, rfl, ⟨by omega⟩, ⟨fun j hj => absurd hj (Nat.not_lt_zero j)⟩, 0, by rw [show (0 : Int).toNat = 0 from rfl, HZ.out]; rfl⟩
    case round =>
      obtain ⟨i, rfl, HI, HF, m, rfl⟩ := hrel; clear b0 b1
      have HB : Aside0 (Below w.heap.size w ((w.alloc (.cells (impl_PermValid.cells l0 i.toNat) 103)).drewN m)) := ⟨by exact bN ((Below.refl _ _).alloc (Nat.le_refl _) _) _⟩
      by_cases hlt : i < (l0.length : Int)
      · have hc : decide (i < (l0.length : Int)) = true := dT hlt
        obtain ⟨ad', e1, hx⟩ := tI HR0.out i HI.out.1 hlt
        cases e1
        replace hx := (HB.out.cell (wL w _ hx)).trans hx
        have p1 := eq_true HI.out.1; have p2 := eq_true hlt; have HT := A0_ hlt; clear hlt
        obtain ⟨n, hn⟩ : ∃ n, n = rd l0 i := ⟨_, rfl⟩
        rw [← hn] at hx
        have HNN := A0_ hn; clear hn
        by_cases c1 : n < 0
        · have d1 : decide (n < 0) = true := dT c1
          clear c1
          have HV : Aside0 (impl_PermValid.val l0 = false) := ⟨impl_PermValid.val_bad l0 i HI.out.1 HT.out (fun h => by have := HNN.out; have := oD d1; have := h.1; omega)⟩
          go_wp2
          go_ret
          exact ⟨by rw [HV.out]; rfl, HB.out⟩
        have d1 : decide (n < 0) = false := dF c1
        by_cases c2 : n ≥ (l0.length : Int)
        · have d2 : decide ((l0.length : Int) ≤ n) = true := dT c2
          clear c1 c2
          have HV : Aside0 (impl_PermValid.val l0 = false) := ⟨impl_PermValid.val_bad l0 i HI.out.1 HT.out (fun h => by have := HNN.out; have := oD d2; have := h.2.1; omega)⟩
          go_wp2
          go_ret
          exact ⟨by rw [HV.out]; rfl, HB.out⟩
        have d2 : decide ((l0.length : Int) ≤ n) = false := dF c2
        have q1 := eq_true (show 0 ≤ n by omega)
        have q2 := eq_true (show n < 12 by have := HL.out; omega)
        have HQ := A0_ (show 0 ≤ n ∧ n < 12 by have := HL.out; omega)
        clear c1 c2
        obtain ⟨b, hb⟩ : ∃ b, b = impl_PermValid.met l0 i.toNat n.toNat := ⟨_, rfl⟩
        have HBB := A0_ hb; clear hb
        have hy : ((w.alloc (.cells (impl_PermValid.cells l0 i.toNat) 103)).drewN m).cell? ⟨w.heap.size, n.toNat, none⟩ = some (.bool b) := by
          rw [HBB.out]
          have hc_ := impl_PermValid.cells_get l0 i.toNat n.toNat (by have := HQ.out; omega)
          show World.cell? (w.alloc (.cells (impl_PermValid.cells l0 i.toNat) 103)) ⟨w.heap.size, n.toNat, none⟩ = _
          simp only [World.cell?, World.alloc, Array.getElem?_push_size, Option.isSome_none]
          exact hc_
        cases b with
        | true =>
          have HV : Aside0 (impl_PermValid.val l0 = false) := ⟨impl_PermValid.val_bad l0 i HI.out.1 HT.out (fun h => by
            obtain ⟨k, hk, e⟩ := impl_PermValid.met_iff.1 HBB.out.symm
            have := HQ.out
            have := HNN.out
            exact h.2.2 k (by omega) (by omega))⟩
          go_wp2
          go_ret
          exact ⟨by rw [HV.out]; rfl, HB.out⟩
        | false =>
          have HI2 := A0_ (show (i + 1).toNat = i.toNat + 1 by have := HI.out; omega)
          have HW := A0_ (show wrap64 (i + 1) = i + 1 by have := HI.out; have := HL.out; have := HT.out; unfold wrap64; omega)
          have HF2 : Aside0 (impl_PermValid.fine l0 (i.toNat + 1)) := ⟨fun j hj => by
            by_cases e : j = i.toNat
            · subst e
              rw [Int.toNat_of_nonneg HI.out.1, ← HNN.out]
              refine ⟨⟨HQ.out.1, by have := of_decide_eq_false d2; omega⟩, fun k hk e => ?_⟩
              have := HBB.out
              rw [impl_PermValid.met_iff.2 ⟨k, hk, by rw [e]; have := HQ.out; omega⟩] at this
              cases this
            exact HF.out j (by omega)⟩
          have HS := A0_ (impl_PermValid.cells_set l0 i.toNat n HQ.out.1 HQ.out.2 (by rw [Int.toNat_of_nonneg HI.out.1, HNN.out]))
          go_wp2
          go_roundw
          case rel => exact ⟨i + 1, by rw [HW.out], ⟨by have := HI.out; have := HT.out; omega⟩, ⟨by rw [HI2.out]; exact HF2.out⟩, m, by
            rw [HI2.out, ← HS.out]
            show ((w.alloc (.cells (impl_PermValid.cells l0 i.toNat) 103)).setCell ⟨w.heap.size, n.toNat, none⟩ (.bool true)).drewN m = _
            rw [World.setCell_alloc_at _ _ _ _ _ rfl]⟩
          case measure => simp only [intOf, HW.out]; have := HI.out; have := HT.out; omega
      have hc : decide (i < (l0.length : Int)) = false := dF hlt
      have HV : Aside0 (impl_PermValid.val l0 = true) := ⟨by
        have e : i.toNat = l0.length := by have := HI.out; omega
        have hF := HF.out; rw [e] at hF
        exact dT ⟨HL.out, hF⟩⟩
      clear hlt
      go_wp2
      go_ret
      exact ⟨by rw [HV.out]; rfl, HB.out⟩
theorem impl_PermValid.calls (A0 : Option Addr) (c0 : Nat) (l0 : List Int) (r : Bool) (w : World) (hr0 : Kd.C (Kd.int .i64) w A0 l0.length l0) (hc0 : l0.length ≤ c0) (h : impl_PermValid.f l0 = some r) :
    Calls Tryz.prog 58 #[.slice A0 l0.length c0] w fun e w' => e = .returned (.bool r) ∧ Below w.heap.size w w' := by
  obtain rfl := sI h; clear h
  by_cases h1 : 1 ≤ l0.length
  · by_cases h2 : l0.length ≤ 12
    · exact impl_PermValid.wv_long A0 c0 l0 w hr0 hc0 h1 h2
    have HV : Aside0 (impl_PermValid.val l0 = false) := ⟨dF (fun k => h2 k.1.2)⟩
    have b0 : decide ((l0.length : Int) < 1) = false := dF (by omega)
    have b1 : decide (12 < (l0.length : Int)) = true := dT (by omega)
    clear h1 h2 hr0 hc0
    go_enter Tryz.func58, Tryz.ntmps58
    go_wp2
    go_ret
    exact ⟨by rw [HV.out]; rfl, (Below.refl _ _).alloc (Nat.le_refl _) _⟩
  have HV : Aside0 (impl_PermValid.val l0 = false) := ⟨dF (fun k => h1 k.1.1)⟩
  have b0 : decide ((l0.length : Int) < 1) = true := dT (by omega)
  clear h1 hr0 hc0
  go_enter Tryz.func58, Tryz.ntmps58
  go_wp2
  go_ret
  exact ⟨by rw [HV.out]; rfl, (Below.refl _ _).alloc (Nat.le_refl _) _⟩


/-! ### slices_Max_int_int: function 59 -/
def slices_Max_int_int.go (l : List Int) (m : Int) : Nat → Int
  | 0 => m
  | i + 1 => if slices_Max_int_int.go l m i < rd l (i : Int) then rd l (i : Int) else slices_Max_int_int.go l m i
/-- The greatest of the first i numbers; the first one for i = 0. -/
def slices_Max_int_int.up (l : List Int) (i : Nat) : Int := slices_Max_int_int.go l (rd l 0) i
def slices_Max_int_int.f (l0 : List Int) : Option Int := if 0 < l0.length then some (slices_Max_int_int.up l0 l0.length) else none
set_option maxHeartbeats 8000000 in
set_option maxRecDepth 100000 in
theorem slices_Max_int_int.calls (A0 : Option Addr) (c0 : Nat) (l0 : List Int) (r : Int) (w : World) (hr0 : Kd.C (Kd.int .i64) w A0 l0.length l0) (hc0 : l0.length ≤ c0) (h : slices_Max_int_int.f l0 = some r) :
    Calls Tryz.prog 59 #[.slice A0 l0.length c0] w fun e w' => e = .returned (.int .i64 r) ∧ Drawn0 w w' := by
  unfold slices_Max_int_int.f at h
  by_cases hl : 0 < l0.length
  · rw [if_pos hl] at h
    obtain rfl := sI h; clear h; have HR0 := A0_ hr0; have HC0 := A0_ hc0; clear hr0 hc0
    have b0 : decide (l0.length < 1) = false := dF (by omega)
    have b1 : decide ((l0.length : Int) < 1) = false := dF (by omega)
    obtain ⟨ad, e0, hx0⟩ := tI HR0.out 0 (by omega) (by omega)
    cases e0
    have hx1 : w.cell? ad = some (.int .i64 (rd l0 0)) := by cases ad; exact hx0
    clear hx0
    have p0 : (0 : Int) < (l0.length : Int) := by omega
    have HM := A0_ (show slices_Max_int_int.up l0 1 = rd l0 0 by show (if rd l0 0 < rd l0 ((0 : Nat) : Int) then rd l0 ((0 : Nat) : Int) else rd l0 0) = rd l0 0; split <;> rfl)
    have HL := A0_ hl
    go_enter Tryz.func59, Tryz.ntmps59
    go_wp2
    go_loopw [3, 4] (fun v3 v4 wr => ∃ (i : Int), v3 = .int .i64 (slices_Max_int_int.up l0 i.toNat) ∧ v4 = .int .i64 i ∧ Aside0 (1 ≤ i ∧ i ≤ (l0.length : Int)) ∧ Drawn0 w wr) (fun _ i _ => l0.length - (intOf i).toNat)
    case atStart => exact ⟨1, by rw [show (1 : Int).toNat = 1 from rfl, HM.out], rfl, ⟨by have := HL.out; omega⟩, by repeat (first | exact Drawn0.refl _ | apply Drawn0.step)⟩
    case round =>
      obtain ⟨i, rfl, rfl, HI, ⟨m, rfl⟩⟩ := hrel; clear hx1 p0 b0 b1
      by_cases hlt : i < (l0.length : Int)
      · have hI := HI.out
        have hc : decide (i < (l0.length : Int)) = true := dT hlt
        obtain ⟨ad', e1, hx⟩ := tI HR0.out i (by omega) hlt
        cases e1
        have p : 0 ≤ i := by omega
        have HS := A0_ (show slices_Max_int_int.up l0 (i + 1).toNat = if slices_Max_int_int.up l0 i.toNat < rd l0 i then rd l0 i else slices_Max_int_int.up l0 i.toNat by
          rw [show (i + 1).toNat = i.toNat + 1 by omega]
          show (if slices_Max_int_int.up l0 i.toNat < rd l0 ((i.toNat : Nat) : Int) then rd l0 ((i.toNat : Nat) : Int) else slices_Max_int_int.up l0 i.toNat) = _
          rw [Int.toNat_of_nonneg p])
        have HT := A0_ hlt; clear hI; have p1 := eq_true p; have p2 := eq_true hlt; clear p hlt
        have HW := A0_ (show wrap64 (i + 1) = i + 1 by have := HI.out; have := HT.out; have := HR0.out.2.1; unfold wrap64; omega)
        go_wp2
        go_roundw
        case rel => exact ⟨i + 1, by rw [HS.out], by rw [HW.out], ⟨by have := HI.out; have := HT.out; omega⟩, by repeat (first | exact Drawn0.refl _ | apply Drawn0.step)⟩
        case measure => simp only [intOf, HW.out]; have := HI.out; have := HT.out; omega
      have hc : decide (i < (l0.length : Int)) = false := dF hlt
      have HE := A0_ (show i = (l0.length : Int) by have := HI.out; omega)
      clear hlt
      go_wp2
      go_ret
      exact ⟨by rw [HE.out]; rfl, by repeat (first | exact Drawn0.refl _ | apply Drawn0.step)⟩
  rw [if_neg hl] at h; cases h


/-! ### impl_still: function 83 -/
def impl_still.l0 : Nat → List Int → Int → Int → Option (List Int)
  | 0, _, _, _ => none
  | k + 1, x3, x8, x9 => if x9 < x8 then (if 0 ≤ x9 then (if x9 < (x3.length : Int) then (impl_still.l0 k (x3.set (x9 : Int).toNat x9) x8 (wrap64 (x9 + 1))) else (none)) else (none)) else (some x3)
def impl_still.f (k : Nat) (a0 : Int) : Option (List Int) := if 0 ≤ a0 then (if (a0 : Int).toNat ≤ 35184372088832 then ((some (List.replicate (a0 : Int).toNat 0 : List Int)).bind fun y101 => (impl_still.l0 k y101 (y101.length : Int) 0)) else (none)) else (none)
set_option maxHeartbeats 8000000 in
set_option maxRecDepth 100000 in
theorem impl_still.calls (k : Nat) (a0 : Int) (r : List Int) (w : World) (h : impl_still.f k a0 = some r) :
    Calls Tryz.prog 83 #[.int .i64 a0] w fun e w' => ∃ v0_ : Value, e = .returned (v0_) ∧ Kd.R (Kd.int .i64) 3 w' w.heap.size (fun _ => True) v0_ r ∧ Below w.heap.size w w' := by
 have HB := A0_ (Below.refl w.heap.size w)
 have H : (if 0 ≤ a0 then (if (a0 : Int).toNat ≤ 35184372088832 then ((some (List.replicate (a0 : Int).toNat 0 : List Int)).bind fun y101 => (impl_still.l0 k y101 (y101.length : Int) 0)) else (none)) else (none)) = some r := h
 clear h
 by_cases c2 : 0 ≤ a0
 ·rw [if_pos c2] at H
  have c2b0 := eq_true c2; have c2b1 := dT c2; clear c2
  by_cases c3 : (a0 : Int).toNat ≤ 35184372088832
  ·rw [if_pos c3] at H
   have c3b0 := eq_true c3; have c3b1 := dT c3; clear c3
   obtain ⟨y101, hy101⟩ : ∃ y_ : List Int, y_ = (List.replicate (a0 : Int).toNat 0) := ⟨_, rfl⟩
   replace H : (impl_still.l0 k y101 (y101.length : Int) 0) = some r := zH hy101 H
   have Ny101 := A0_ hy101; clear hy101; have H' := A0_ H; clear H
   go_enter Tryz.func83, Tryz.ntmps83
   go_wp2_with (first | ((with_reducible refine gD (N := 6) rfl ?_); refine Kd.R_make (Kd.int .i64) _ 3 rfl (N := 6) rfl 23 _ _ rfl a0 rfl rfl Tryz.underlying23 (.int .i64 0) 8 info3 rfl (by decide) (by omega) 0 (ok := fun _ => True) (okp := fun _ => True) rfl (fun _ hk => hk) trivial (zd) (Nat.le_trans (Nat.mul_le_mul_right _ (zd : a0.toNat ≤ 35184372088832)) (by omega)) (Below.refl _ _) (Nat.le_refl _) ?_; intro v102 w4 ho5 hb hg_ hnew_; clear hg_ hnew_; (first | rw [← Ny101.out] at ho5 | (simp only [Int.reduceToNat] at ho5; rw [← Ny101.out] at ho5)); have HO103 := A0_ (rL ho5 (bZ (zB_ HB))); replace HB := zB HB hb; clear hb ho5; obtain ⟨Ao6, co6, eo6⟩ := rS HO103.out; subst eo6))
   go_loopg [9] k (fun kq v9 w' => ∃ (x3_1 : List Int) (x9_1 : Int), v9 = .int .i64 x9_1 ∧ Aside0 (impl_still.l0 kq x3_1 (y101.length : Int) x9_1 = some r) ∧ Aside0 (kq ≤ k) ∧ Aside0 (Kd.R (Kd.int .i64) 3 w' w.heap.size (fun _ => True) (.slice Ao6 y101.length co6) x3_1) ∧ Aside0 (Below w.heap.size w w'))
   case atStart => exact ⟨(y101), (0), zt, H', ⟨Nat.le_refl _⟩, ⟨zR_ HO103⟩, ⟨zB_ HB⟩⟩
   case round =>
    clear H'; (try clear c2); (try clear c2b0); (try clear c2b1); (try clear p2); (try clear c3); (try clear c3b0); (try clear c3b1); obtain ⟨x3_1, x9_1, rfl, HA, HK1, HO_3, HB⟩ := hrel; have hl3_1 := (rR HO_3.out).1; rw [hl3_1] at HO_3; (try simp only [hl3_1])
    cases gk with
    | zero => exact absurd HA.out (by simp [impl_still.l0])
    | succ k1 =>
     have H := HA.out; clear HA; simp only [impl_still.l0] at H
     by_cases c7 : x9_1 < (y101.length : Int)
     ·rw [if_pos c7] at H
      have c7b0 := dT c7; (try simp only [hl3_1] at c7b0); clear c7
      by_cases c8 : 0 ≤ x9_1
      ·rw [if_pos c8] at H
       have c8b0 := dT c8; clear c8
       by_cases c9 : x9_1 < (x3_1.length : Int)
       ·rw [if_pos c9] at H
        have c9b0 := dT c9; (try simp only [hl3_1] at c9b0); clear c9
        obtain ⟨y104, hy104⟩ : ∃ y_ : List Int, y_ = (x3_1.set (x9_1 : Int).toNat x9_1) := ⟨_, rfl⟩
        replace H : (impl_still.l0 k1 y104 (y101.length : Int) (wrap64 (x9_1 + 1))) = some r := zH hy104 H
        have Ny104 := A0_ hy104; clear hy104; have H' := A0_ H; clear H
        have p10 : 0 ≤ (x9_1 : Int) := zd
        have q10 : (x9_1 : Int) < ((x3_1.length : Int) : Int) := zd
        obtain ⟨go10, co10, eo10, gb10, gl10, cl10, HG10⟩ := Kd.R_form HO_3.out (by omega)
        (first | cases eo10 | (injection eo10 with ea_ en_ ec_; (first | subst ea_ | (injection ea_ with ea_; subst ea_)); subst ec_; clear en_))
        have GB10 := A0_ gb10; have GG10 := A0_ HG10; clear gb10 gl10 HG10
        obtain ⟨hx10_0, hf10_0⟩ := Kd.R_celln 0 HO_3.out (x9_1 : Int) p10 q10
        replace p10 := eq_true p10; replace q10 := eq_true q10
        have HP11 := Kd.R_putg HO_3.out (x9_1 : Int) x9_1
        go_wp2_with (first | ((with_reducible refine gS (t := 3) (p := 15) rfl ?_); refine store_event (t := 3) (p := 15) (v := ?vo_w12) (w1 := (wr.setCell ⟨go10, (x9_1 : Int).toNat, none⟩ (.int .i64 x9_1))) ?hg ?ho ?hn ?hr ?_; (case ho => rfl); (case hg => rfl); (case hn => rfl); (case hr => first | (go_simp; done) | (go_simp; rfl)); intro w12 hw; have hg : wr.grownBy w12 (some go10) := (by rw [hw]; exact HP11.2); have hp_ : Kd.R (Kd.int .i64) 3 w12 w.heap.size (fun _ => True) (.slice (some ⟨go10, 0, none⟩) x3_1.length co6) y104 := (by rw [hw, Ny104.out]; exact HP11.1); clear HP11; replace HO_3 := A0_ (hp_); replace HB := A0_ ((by rw [hw]; exact bS (HB.out) GB10.out : Below w.heap.size w w12)); clear hg hw hp_))
        (try simp only [← hl3_1])
        go_roundg k1
        case measure => have := HK1.out; omega
        case rel => exact ⟨(y104), (wrap64 (x9_1 + 1)), zt, H', ⟨by have := HK1.out; omega⟩, ⟨by (try simp only [hl3_1]); (with_reducible repeat (first | apply rA | apply rN | apply rD)); exact HO_3.out⟩, ⟨zB_ HB⟩⟩
       rw [if_neg c9] at H
       exact absurd H (by simp)
      rw [if_neg c8] at H
      exact absurd H (by simp)
     rw [if_neg c7] at H; have c7b0 := dF c7; (try simp only [hl3_1] at c7b0); clear c7; obtain rfl := sI H
     go_wp2
     go_ret
     exact ⟨_, by first | rfl | (simp [*] <;> rfl), zR_ HO_3, zB_ HB⟩
  rw [if_neg c3] at H
  exact absurd H (by simp)
 rw [if_neg c2] at H
 exact absurd H (by simp)

/-! ### impl_orbits: function 60 -/
mutual
def impl_orbits.l0 : Nat → List (List Int) → List Int → Bool → Option (List Int)
  | 0, _, _, _ => none
  | k + 1, x0, x3, x4 => if x4 = true then (impl_orbits.l1 k x0 x3 false x0 (x0.length : Int) 0) else (some x3)
def impl_orbits.l1 : Nat → List (List Int) → List Int → Bool → List (List Int) → Int → Int → Option (List Int)
  | 0, _, _, _, _, _, _ => none
  | k + 1, x0, x3, x4, x16, x17, x18 => if x18 < x17 then (if 0 ≤ x18 then (if x18 < (x16.length : Int) then (impl_orbits.l2 k x0 x3 x4 x16 x17 x18 (rd_L1 x16 x18) ((rd_L1 x16 x18).length : Int) 0) else (none)) else (none)) else (impl_orbits.l0 k x0 x3 x4)
def impl_orbits.l2 : Nat → List (List Int) → List Int → Bool → List (List Int) → Int → Int → List Int → Int → Int → Option (List Int)
  | 0, _, _, _, _, _, _, _, _, _ => none
  | k + 1, x0, x3, x4, x16, x17, x18, x22, x23, x24 => if x24 < x23 then (if 0 ≤ x24 then (if x24 < (x22.length : Int) then (if x24 < (x3.length : Int) then (if 0 ≤ (rd x22 x24) then (if (rd x22 x24) < (x3.length : Int) then (if (rd x3 x24) = (mn (rd x3 x24) (rd x3 (rd x22 x24))) then (if (rd x3 (rd x22 x24)) = (mn (rd x3 x24) (rd x3 (rd x22 x24))) then (impl_orbits.l2 k x0 x3 x4 x16 x17 x18 x22 x23 (wrap64 (x24 + 1))) else (impl_orbits.l2 k x0 ((x3.set (x24 : Int).toNat (mn (rd x3 x24) (rd x3 (rd x22 x24)))).set ((rd x22 x24) : Int).toNat (mn (rd x3 x24) (rd x3 (rd x22 x24)))) true x16 x17 x18 x22 x23 (wrap64 (x24 + 1)))) else (impl_orbits.l2 k x0 ((x3.set (x24 : Int).toNat (mn (rd x3 x24) (rd x3 (rd x22 x24)))).set ((rd x22 x24) : Int).toNat (mn (rd x3 x24) (rd x3 (rd x22 x24)))) true x16 x17 x18 x22 x23 (wrap64 (x24 + 1)))) else (none)) else (none)) else (none)) else (none)) else (none)) else (impl_orbits.l1 k x0 x3 x4 x16 x17 (wrap64 (x18 + 1)))
end
def impl_orbits.f (k : Nat) (l0 : List (List Int)) : Option (List Int) := if 0 < (l0.length : Int) then ((impl_still.f k ((rd_L1 l0 0).length : Int)).bind fun t106 => (impl_orbits.l0 k l0 t106 true)) else (none)
set_option maxHeartbeats 8000000 in
set_option maxRecDepth 100000 in
theorem impl_orbits.calls (k : Nat) (A0 : Option Addr) (c0 : Nat) (l0 : List (List Int)) (r : List Int) (w : World) (hr0 : Kd.C (Kd.slice 3 (Kd.int .i64)) w A0 l0.length l0) (hc0 : l0.length ≤ c0) (h : impl_orbits.f k l0 = some r) :
    Calls Tryz.prog 60 #[.slice A0 l0.length c0] w fun e w' => ∃ v0_ : Value, e = .returned (v0_) ∧ Kd.R (Kd.int .i64) 3 w' w.heap.size (fun _ => True) v0_ r ∧ Below w.heap.size w w' := by
 have HR0 := A0_ hr0; have HC0 := A0_ hc0; clear hr0 hc0
 have HB := A0_ (Below.refl w.heap.size w)
 have H : (if 0 < (l0.length : Int) then ((impl_still.f k ((rd_L1 l0 0).length : Int)).bind fun t106 => (impl_orbits.l0 k l0 t106 true)) else (none)) = some r := h
 clear h
 by_cases c2 : 0 < (l0.length : Int)
 ·rw [if_pos c2] at H
  have c2b0 := dT c2
  have c2b1 : decide (0 < l0.length) = true := dT (by omega)
  clear c2; obtain ⟨t106, A3, H⟩ := zbind H; have H' := A0_ H; clear H
  have p105 : 0 ≤ (0 : Int) := (by omega)
  have q105 : 0 < (l0.length : Int) := zd
  obtain ⟨ad105, A105_0, c105_0, e105, hx105_0, hl105_0, hi105_0⟩ := at_L1 HR0.out 0 p105 q105
  cases e105
  have qi105 : (0 < l0.length) = True := eq_true (by omega)
  (try rw [show ((0 : Int)).toNat = 0 from rfl] at hx105_0)
  (try rw [Addr.add_zero'] at hx105_0)
  have HR105_0 := A0_ hi105_0; have HC105_0 := A0_ hl105_0; clear hi105_0 hl105_0; replace p105 := eq_true p105; replace q105 := eq_true q105
  go_enter Tryz.func60, Tryz.ntmps60
  go_wp2_with (first | (go_at_call 83; (with_reducible refine (impl_still.calls k ((rd_L1 l0 0).length : Int) t106 _ A3.out).mono ?_); rintro e w4 ⟨v107, rfl, ho0, hb⟩; have HO108 := A0_ (rL ho0 (bZ (zB_ HB))); replace HB := zB HB hb; (try clear hb); (try clear ho0)))
  repeat (go_quiet (first | (go_at_call 83; (with_reducible refine (impl_still.calls k ((rd_L1 l0 0).length : Int) t106 _ A3.out).mono ?_); rintro e w4 ⟨v107, rfl, ho0, hb⟩; have HO108 := A0_ (rL ho0 (bZ (zB_ HB))); replace HB := zB HB hb; (try clear hb); (try clear ho0))); try go_wp2_with (first | (go_at_call 83; (with_reducible refine (impl_still.calls k ((rd_L1 l0 0).length : Int) t106 _ A3.out).mono ?_); rintro e w4 ⟨v107, rfl, ho0, hb⟩; have n0_ := A0_ (rL ho0 (bZ (zB_ HB))); have n1_ := zB HB hb; clear HB; have HO108 := n0_; have HB := n1_; clear n0_ n1_; (try clear hb); (try clear hb2); (try clear hk); (try clear hi); (try clear ho0))))
  go_loopg [4] k (fun kq v4 w' => ∃ (x3_1 : List Int) (x4_1 : Bool), v4 = .bool x4_1 ∧ Aside0 (impl_orbits.l0 kq l0 x3_1 x4_1 = some r) ∧ Aside0 (kq ≤ k) ∧ Aside0 (Kd.R (Kd.int .i64) 3 w' w.heap.size (fun _ => True) v107 x3_1) ∧ Aside0 (Below w.heap.size w w'))
  case atStart => exact ⟨(t106), (true), zt, H', ⟨Nat.le_refl _⟩, ⟨zR_ HO108⟩, ⟨zB_ HB⟩⟩
  case round =>
   clear H'; (try clear c1); (try clear p1); (try clear q1); (try clear hx1); (try clear qi1); (try clear c2); (try clear c2b0); (try clear c2b1); (try clear p2); (try clear hx105_0); (try clear p105); (try clear q105); obtain ⟨x3_1, x4_1, rfl, HA, HK1, HO_3, HB⟩ := hrel
   cases gk with
   | zero => exact absurd HA.out (by simp [impl_orbits.l0])
   | succ k1 =>
    have H := HA.out; clear HA; simp only [impl_orbits.l0] at H
    by_cases c5 : x4_1 = true
    ·subst c5
     rw [if_pos rfl] at H; have H' := A0_ H; clear H
     go_wp2
     repeat (go_quiet (fail); try go_wp2)
     go_loopg [4, 18] k1 (fun kq v4 v18 w' => ∃ (x3_2 : List Int) (x4_2 : Bool) (x18_2 : Int), v4 = .bool x4_2 ∧ v18 = .int .i64 x18_2 ∧ Aside0 (impl_orbits.l1 kq l0 x3_2 x4_2 l0 (l0.length : Int) x18_2 = some r) ∧ Aside0 (kq ≤ k1) ∧ Aside0 (Kd.R (Kd.int .i64) 3 w' w.heap.size (fun _ => True) v107 x3_2) ∧ Aside0 (Below w.heap.size w w'))
     case atStart => exact ⟨(x3_1), (false), (0), zt, zt, H', ⟨Nat.le_refl _⟩, ⟨zR_ HO_3⟩, ⟨zB_ HB⟩⟩
     case round =>
      clear H'; (try clear c1); (try clear p1); (try clear q1); (try clear hx1); (try clear qi1); (try clear c2); (try clear c2b0); (try clear c2b1); (try clear p2); (try clear c5); (try clear hx105_0); (try clear p1); (try clear p105); (try clear p2); (try clear q1); (try clear q105); obtain ⟨x3_2, x4_2, x18_2, rfl, rfl, HA, HK2, HO_3, HB⟩ := hrel
      cases gk with
      | zero => exact absurd HA.out (by simp [impl_orbits.l1])
      | succ k2 =>
       have H := HA.out; clear HA; simp only [impl_orbits.l1] at H
       by_cases c6 : x18_2 < (l0.length : Int)
       ·rw [if_pos c6] at H
        have c6b0 := dT c6; clear c6
        by_cases c7 : 0 ≤ x18_2
        ·rw [if_pos c7] at H
         have c7b0 := dT c7; clear c7
         by_cases c8 : x18_2 < (l0.length : Int)
         ·rw [if_pos c8] at H
          have c8b0 := dT c8; clear c8; have H' := A0_ H; clear H
          have p109 : 0 ≤ (x18_2 : Int) := zd
          have q109 : x18_2 < (l0.length : Int) := zd
          obtain ⟨ad109, A109_0, c109_0, e109, hx109_0, hl109_0, hi109_0⟩ := at_L1 HR0.out x18_2 p109 q109
          obtain rfl : ad105 = ad109 := (by injection e109)
          try replace hx109_0 := (HB.out.cell (wL w _ hx109_0)).trans hx109_0
          have HR109_0 := A0_ hi109_0; have HC109_0 := A0_ hl109_0; clear hi109_0 hl109_0; replace p109 := eq_true p109; replace q109 := eq_true q109
          go_wp2
          repeat (go_quiet (fail); try go_wp2)
          go_loopg [4, 24] k2 (fun kq v4 v24 w' => ∃ (x3_3 : List Int) (x4_3 : Bool) (x24_3 : Int), v4 = .bool x4_3 ∧ v24 = .int .i64 x24_3 ∧ Aside0 (impl_orbits.l2 kq l0 x3_3 x4_3 l0 (l0.length : Int) x18_2 (rd_L1 l0 x18_2) ((rd_L1 l0 x18_2).length : Int) x24_3 = some r) ∧ Aside0 (kq ≤ k2) ∧ Aside0 (Kd.R (Kd.int .i64) 3 w' w.heap.size (fun _ => True) v107 x3_3) ∧ Aside0 (Below w.heap.size w w'))
          case atStart => exact ⟨(x3_2), (x4_2), (0), zt, zt, H', ⟨Nat.le_refl _⟩, ⟨zR_ HO_3⟩, ⟨zB_ HB⟩⟩
          case round =>
           clear H'; (try clear c1); (try clear p1); (try clear q1); (try clear hx1); (try clear qi1); (try clear c2); (try clear c2b0); (try clear c2b1); (try clear p2); (try clear c5); (try clear c6); (try clear c6b0); (try clear c7); (try clear c7b0); (try clear c8); (try clear c8b0); (try clear hx105_0); (try clear hx109_0); (try clear p1); (try clear p105); (try clear p109); (try clear p2); (try clear q1); (try clear q105); (try clear q109); obtain ⟨x3_3, x4_3, x24_3, rfl, rfl, HA, HK3, HO_3, HB⟩ := hrel
           cases gk with
           | zero => exact absurd HA.out (by simp [impl_orbits.l2])
           | succ k3 =>
            have H := HA.out; clear HA; simp only [impl_orbits.l2] at H
            by_cases c9 : x24_3 < ((rd_L1 l0 x18_2).length : Int)
            ·rw [if_pos c9] at H
             have c9b0 := dT c9; clear c9
             by_cases c10 : 0 ≤ x24_3
             ·rw [if_pos c10] at H
              have c10b0 := dT c10; clear c10
              by_cases c11 : x24_3 < ((rd_L1 l0 x18_2).length : Int)
              ·rw [if_pos c11] at H
               have c11b0 := dT c11; clear c11
               by_cases c12 : x24_3 < (x3_3.length : Int)
               ·rw [if_pos c12] at H
                have c12b0 := dT c12; clear c12
                by_cases c13 : 0 ≤ (rd (rd_L1 l0 x18_2) x24_3)
                ·rw [if_pos c13] at H
                 have c13b0 := dT c13; clear c13
                 by_cases c14 : (rd (rd_L1 l0 x18_2) x24_3) < (x3_3.length : Int)
                 ·rw [if_pos c14] at H
                  have c14b0 := dT c14; clear c14
                  obtain ⟨ji15, hji15⟩ : ∃ j_ : Int, (mn (rd x3_3 x24_3) (rd x3_3 (rd (rd_L1 l0 x18_2) x24_3))) = j_ := ⟨_, rfl⟩
                  replace H : (if (rd x3_3 x24_3) = (ji15) then (if (rd x3_3 (rd (rd_L1 l0 x18_2) x24_3)) = (ji15) then (impl_orbits.l2 k3 l0 x3_3 x4_3 l0 (l0.length : Int) x18_2 (rd_L1 l0 x18_2) ((rd_L1 l0 x18_2).length : Int) (wrap64 (x24_3 + 1))) else (impl_orbits.l2 k3 l0 ((x3_3.set (x24_3 : Int).toNat (ji15)).set ((rd (rd_L1 l0 x18_2) x24_3) : Int).toNat (ji15)) true l0 (l0.length : Int) x18_2 (rd_L1 l0 x18_2) ((rd_L1 l0 x18_2).length : Int) (wrap64 (x24_3 + 1)))) else (impl_orbits.l2 k3 l0 ((x3_3.set (x24_3 : Int).toNat (ji15)).set ((rd (rd_L1 l0 x18_2) x24_3) : Int).toNat (ji15)) true l0 (l0.length : Int) x18_2 (rd_L1 l0 x18_2) ((rd_L1 l0 x18_2).length : Int) (wrap64 (x24_3 + 1)))) = some r := by first | (rw [hji15] at H; exact H) | (simp only [hji15] at H ⊢; exact H)
                  have hji15_ : (if (rd x3_3 (rd (rd_L1 l0 x18_2) x24_3)) < (rd x3_3 x24_3) then (rd x3_3 (rd (rd_L1 l0 x18_2) x24_3)) else (rd x3_3 x24_3)) = ji15 := hji15
                  by_cases c16 : (rd x3_3 x24_3) = (ji15)
                  ·rw [if_pos c16] at H
                   have c16b0 : ((rd x3_3 x24_3) == (ji15)) = true := beq_iff_eq.mpr c16
                   have c16b1 : ((rd x3_3 x24_3) != (ji15)) = false := bne_eq_false_iff_eq.mpr c16
                   clear c16
                   by_cases c17 : (rd x3_3 (rd (rd_L1 l0 x18_2) x24_3)) = (ji15)
                   ·rw [if_pos c17] at H
                    have c17b0 : ((rd x3_3 (rd (rd_L1 l0 x18_2) x24_3)) == (ji15)) = true := beq_iff_eq.mpr c17
                    have c17b1 : ((rd x3_3 (rd (rd_L1 l0 x18_2) x24_3)) != (ji15)) = false := bne_eq_false_iff_eq.mpr c17
                    clear c17; have H' := A0_ H; clear H
                    have p110 : 0 ≤ (x24_3 : Int) := zd
                    have q110 : x24_3 < ((rd_L1 l0 x18_2).length : Int) := zd
                    obtain ⟨ad110, e110, hx110_0⟩ := tI HR109_0.out x24_3 p110 q110
                    cases e110
                    try replace hx110_0 := (HB.out.cell (wL w _ hx110_0)).trans hx110_0
                    replace p110 := eq_true p110; replace q110 := eq_true q110; obtain ⟨Ao18, co18, eo18⟩ := rS HO_3.out; subst eo18
                    have p111 : 0 ≤ (x24_3 : Int) := zd
                    have q111 : x24_3 < (x3_3.length : Int) := zd
                    obtain ⟨ad111, e111, hx111_0⟩ := tI (rR HO_3.out).2.2 x24_3 p111 q111
                    cases e111
                    replace p111 := eq_true p111; replace q111 := eq_true q111
                    have p112 : 0 ≤ ((rd (rd_L1 l0 x18_2) x24_3) : Int) := zd
                    have q112 : (rd (rd_L1 l0 x18_2) x24_3) < (x3_3.length : Int) := zd
                    obtain ⟨ad112, e112, hx112_0⟩ := tI (rR HO_3.out).2.2 (rd (rd_L1 l0 x18_2) x24_3) p112 q112
                    obtain rfl : ad111 = ad112 := (by injection e112)
                    replace p112 := eq_true p112; replace q112 := eq_true q112
                    have p113 : 0 ≤ (x24_3 : Int) := zd
                    have q113 : x24_3 < (x3_3.length : Int) := zd
                    obtain ⟨ad113, e113, hx113_0⟩ := tI (rR HO_3.out).2.2 x24_3 p113 q113
                    obtain rfl : ad111 = ad113 := (by injection e113)
                    replace p113 := eq_true p113; replace q113 := eq_true q113
                    have p114 : 0 ≤ ((rd (rd_L1 l0 x18_2) x24_3) : Int) := zd
                    have q114 : (rd (rd_L1 l0 x18_2) x24_3) < (x3_3.length : Int) := zd
                    obtain ⟨ad114, e114, hx114_0⟩ := tI (rR HO_3.out).2.2 (rd (rd_L1 l0 x18_2) x24_3) p114 q114
                    obtain rfl : ad111 = ad114 := (by injection e114)
                    replace p114 := eq_true p114; replace q114 := eq_true q114
                    go_wp2
                    repeat (go_quiet (fail); try go_wp2)
                    go_roundg k3
                    case measure => have := HK1.out; have := HK2.out; have := HK3.out; omega
                    case rel => exact ⟨(x3_3), (x4_3), (wrap64 (x24_3 + 1)), zt, zt, H', ⟨by have := HK1.out; have := HK2.out; have := HK3.out; omega⟩, ⟨zR_ HO_3⟩, ⟨zB_ HB⟩⟩
                   rw [if_neg c17] at H
                   have c17b0 : ((rd x3_3 (rd (rd_L1 l0 x18_2) x24_3)) == (ji15)) = false := beq_eq_false_iff_ne.mpr c17
                   have c17b1 : ((rd x3_3 (rd (rd_L1 l0 x18_2) x24_3)) != (ji15)) = true := bne_iff_ne.mpr c17
                   obtain ⟨y115, hy115⟩ : ∃ y_ : List Int, y_ = (x3_3.set (x24_3 : Int).toNat (ji15)) := ⟨_, rfl⟩
                   replace H : (impl_orbits.l2 k3 l0 (y115.set ((rd (rd_L1 l0 x18_2) x24_3) : Int).toNat (ji15)) true l0 (l0.length : Int) x18_2 (rd_L1 l0 x18_2) ((rd_L1 l0 x18_2).length : Int) (wrap64 (x24_3 + 1))) = some r := zH hy115 H
                   have Ny115 := A0_ hy115; clear hy115
                   obtain ⟨y116, hy116⟩ : ∃ y_ : List Int, y_ = (y115.set ((rd (rd_L1 l0 x18_2) x24_3) : Int).toNat (ji15)) := ⟨_, rfl⟩
                   replace H : (impl_orbits.l2 k3 l0 y116 true l0 (l0.length : Int) x18_2 (rd_L1 l0 x18_2) ((rd_L1 l0 x18_2).length : Int) (wrap64 (x24_3 + 1))) = some r := zH hy116 H
                   have Ny116 := A0_ hy116; clear hy116; have H' := A0_ H; clear H
                   have p110 : 0 ≤ (x24_3 : Int) := zd
                   have q110 : x24_3 < ((rd_L1 l0 x18_2).length : Int) := zd
                   obtain ⟨ad110, e110, hx110_0⟩ := tI HR109_0.out x24_3 p110 q110
                   cases e110
                   try replace hx110_0 := (HB.out.cell (wL w _ hx110_0)).trans hx110_0
                   replace p110 := eq_true p110; replace q110 := eq_true q110; obtain ⟨Ao21, co21, eo21⟩ := rS HO_3.out; subst eo21
                   have p111 : 0 ≤ (x24_3 : Int) := zd
                   have q111 : x24_3 < (x3_3.length : Int) := zd
                   obtain ⟨ad111, e111, hx111_0⟩ := tI (rR HO_3.out).2.2 x24_3 p111 q111
                   cases e111
                   replace p111 := eq_true p111; replace q111 := eq_true q111
                   have p112 : 0 ≤ ((rd (rd_L1 l0 x18_2) x24_3) : Int) := zd
                   have q112 : (rd (rd_L1 l0 x18_2) x24_3) < (x3_3.length : Int) := zd
                   obtain ⟨ad112, e112, hx112_0⟩ := tI (rR HO_3.out).2.2 (rd (rd_L1 l0 x18_2) x24_3) p112 q112
                   obtain rfl : ad111 = ad112 := (by injection e112)
                   replace p112 := eq_true p112; replace q112 := eq_true q112
                   have p113 : 0 ≤ (x24_3 : Int) := zd
                   have q113 : x24_3 < (x3_3.length : Int) := zd
                   obtain ⟨ad113, e113, hx113_0⟩ := tI (rR HO_3.out).2.2 x24_3 p113 q113
                   obtain rfl : ad111 = ad113 := (by injection e113)
                   replace p113 := eq_true p113; replace q113 := eq_true q113
                   have p114 : 0 ≤ ((rd (rd_L1 l0 x18_2) x24_3) : Int) := zd
                   have q114 : (rd (rd_L1 l0 x18_2) x24_3) < (x3_3.length : Int) := zd
                   obtain ⟨ad114, e114, hx114_0⟩ := tI (rR HO_3.out).2.2 (rd (rd_L1 l0 x18_2) x24_3) p114 q114
                   obtain rfl : ad111 = ad114 := (by injection e114)
                   replace p114 := eq_true p114; replace q114 := eq_true q114
                   have p19 : 0 ≤ (x24_3 : Int) := zd
                   have q19 : (x24_3 : Int) < ((x3_3.length : Int) : Int) := zd
                   obtain ⟨go19, co19, eo19, gb19, gl19, cl19, HG19⟩ := Kd.R_form HO_3.out (by omega)
                   (first | cases eo19 | (injection eo19 with ea_ en_ ec_; (first | subst ea_ | (injection ea_ with ea_; subst ea_)); subst ec_; clear en_))
                   have GB19 := A0_ gb19; have GG19 := A0_ HG19; clear gb19 gl19 HG19
                   (first | simp only [add_plain] at hx111_0 | skip)
                   (first | simp only [add_plain] at hx112_0 | skip)
                   (first | simp only [add_plain] at hx113_0 | skip)
                   (first | simp only [add_plain] at hx114_0 | skip)
                   obtain ⟨hx19_0, hf19_0⟩ := Kd.R_celln 0 HO_3.out (x24_3 : Int) p19 q19
                   replace p19 := eq_true p19; replace q19 := eq_true q19
                   have HP22 := Kd.R_putg HO_3.out (x24_3 : Int) ji15
                   go_wp2_with (first | ((with_reducible refine gS (t := 3) (p := 58) rfl ?_); (try (rw [drewN_self wr]; generalize hq_ : World.drewN wr _ = wr; have n0_ := A0_ (Kd.R_at hq_ HO_3.out); have n1_ := A0_ (below_at hq_ HB.out); clear hq_ HO_3 HB; have HO_3 := n0_; have HB := n1_; clear n0_ n1_; (try (obtain ⟨hx19_0, hf19_0⟩ := Kd.R_celln 0 HO_3.out (x24_3 : Int) (of_eq_true p19) (of_eq_true q19))); (try (have HP22 := Kd.R_putg HO_3.out (x24_3 : Int) ji15)))); refine store_event (t := 3) (p := 58) (v := ?vo_w23) (w1 := (wr.setCell ⟨go19, (x24_3 : Int).toNat, none⟩ (.int .i64 ji15))) ?hg ?ho ?hn ?hr ?_; (case ho => rfl); (case hg => rfl); (case hn => rfl); (case hr => first | (go_simp; done) | (go_simp; rfl) | (go_simp; congr 2; rw [← hji15]; unfold mn; omega)); intro w23 hw; have hg : wr.grownBy w23 (some go19) := (by rw [hw]; exact HP22.2); have hp_ : Kd.R (Kd.int .i64) 3 w23 w.heap.size (fun _ => True) (.slice (some ⟨go19, 0, none⟩) x3_3.length co21) y115 := (by rw [hw, Ny115.out]; exact HP22.1); clear HP22; replace HO_3 := A0_ (hp_); replace HB := A0_ ((by rw [hw]; exact bS (HB.out) GB19.out : Below w.heap.size w w23)); clear hg hw hp_; have p20 : 0 ≤ ((rd (rd_L1 l0 x18_2) x24_3) : Int) := zd; have q20 : ((rd (rd_L1 l0 x18_2) x24_3) : Int) < ((x3_3.length : Int) : Int) := zd; obtain ⟨hx20_0, hf20_0⟩ := Kd.R_celln 0 HO_3.out ((rd (rd_L1 l0 x18_2) x24_3) : Int) p20 q20; replace p20 := eq_true p20; replace q20 := eq_true q20; obtain ⟨hy24_, hz24_⟩ := Kd.R_celln 0 HO_3.out ((rd (rd_L1 l0 x18_2) x24_3) : Int) (zd) (zd); have HP24 := Kd.R_putg HO_3.out ((rd (rd_L1 l0 x18_2) x24_3) : Int) ji15) | ((with_reducible refine gS (t := 3) (p := 59) rfl ?_); (try (rw [drewN_self w23]; generalize hq_ : World.drewN w23 _ = w23; have n0_ := A0_ (Kd.R_at hq_ HO_3.out); have n1_ := A0_ (below_at hq_ HB.out); clear hq_ HO_3 HB; have HO_3 := n0_; have HB := n1_; clear n0_ n1_; (try (obtain ⟨hx19_0, hf19_0⟩ := Kd.R_celln 0 HO_3.out (x24_3 : Int) (of_eq_true p19) (of_eq_true q19))); (try (obtain ⟨hy24_, hz24_⟩ := Kd.R_celln 0 HO_3.out ((rd (rd_L1 l0 x18_2) x24_3) : Int) (zd) (zd))); (try (have HP24 := Kd.R_putg HO_3.out ((rd (rd_L1 l0 x18_2) x24_3) : Int) ji15)))); refine store_event (t := 3) (p := 59) (v := ?vo_w25) (w1 := (w23.setCell ⟨go19, ((rd (rd_L1 l0 x18_2) x24_3) : Int).toNat, none⟩ (.int .i64 ji15))) ?hg ?ho ?hn ?hr ?_; (case ho => rfl); (case hg => rfl); (case hn => rfl); (case hr => first | (go_simp; done) | (go_simp; rfl) | (go_simp; congr 2; rw [← hji15]; unfold mn; omega)); intro w25 hw; have hg : w23.grownBy w25 (some go19) := (by rw [hw]; exact HP24.2); have hp_ : Kd.R (Kd.int .i64) 3 w25 w.heap.size (fun _ => True) (.slice (some ⟨go19, 0, none⟩) x3_3.length co21) y116 := (by rw [hw, Ny116.out]; exact HP24.1); clear HP24; replace HO_3 := A0_ (hp_); replace HB := A0_ ((by rw [hw]; exact bS (HB.out) GB19.out : Below w.heap.size w w25)); clear hg hw hp_))
                   repeat (go_quiet (first | ((with_reducible refine gS (t := 3) (p := 58) rfl ?_); (try (rw [drewN_self wr]; generalize hq_ : World.drewN wr _ = wr; have n0_ := A0_ (Kd.R_at hq_ HO_3.out); have n1_ := A0_ (below_at hq_ HB.out); clear hq_ HO_3 HB; have HO_3 := n0_; have HB := n1_; clear n0_ n1_; (try (obtain ⟨hx19_0, hf19_0⟩ := Kd.R_celln 0 HO_3.out (x24_3 : Int) (of_eq_true p19) (of_eq_true q19))); (try (have HP22 := Kd.R_putg HO_3.out (x24_3 : Int) ji15)))); refine store_event (t := 3) (p := 58) (v := ?vo_w23) (w1 := (wr.setCell ⟨go19, (x24_3 : Int).toNat, none⟩ (.int .i64 ji15))) ?hg ?ho ?hn ?hr ?_; (case ho => rfl); (case hg => rfl); (case hn => rfl); (case hr => first | (go_simp; done) | (go_simp; rfl) | (go_simp; congr 2; rw [← hji15]; unfold mn; omega)); intro w23 hw; have hg : wr.grownBy w23 (some go19) := (by rw [hw]; exact HP22.2); have hp_ : Kd.R (Kd.int .i64) 3 w23 w.heap.size (fun _ => True) (.slice (some ⟨go19, 0, none⟩) x3_3.length co21) y115 := (by rw [hw, Ny115.out]; exact HP22.1); clear HP22; replace HO_3 := A0_ (hp_); replace HB := A0_ ((by rw [hw]; exact bS (HB.out) GB19.out : Below w.heap.size w w23)); clear hg hw hp_; have p20 : 0 ≤ ((rd (rd_L1 l0 x18_2) x24_3) : Int) := zd; have q20 : ((rd (rd_L1 l0 x18_2) x24_3) : Int) < ((x3_3.length : Int) : Int) := zd; obtain ⟨hx20_0, hf20_0⟩ := Kd.R_celln 0 HO_3.out ((rd (rd_L1 l0 x18_2) x24_3) : Int) p20 q20; replace p20 := eq_true p20; replace q20 := eq_true q20; obtain ⟨hy24_, hz24_⟩ := Kd.R_celln 0 HO_3.out ((rd (rd_L1 l0 x18_2) x24_3) : Int) (zd) (zd); have HP24 := Kd.R_putg HO_3.out ((rd (rd_L1 l0 x18_2) x24_3) : Int) ji15) | ((with_reducible refine gS (t := 3) (p := 59) rfl ?_); (try (rw [drewN_self w23]; generalize hq_ : World.drewN w23 _ = w23; have n0_ := A0_ (Kd.R_at hq_ HO_3.out); have n1_ := A0_ (below_at hq_ HB.out); clear hq_ HO_3 HB; have HO_3 := n0_; have HB := n1_; clear n0_ n1_; (try (obtain ⟨hx19_0, hf19_0⟩ := Kd.R_celln 0 HO_3.out (x24_3 : Int) (of_eq_true p19) (of_eq_true q19))); (try (obtain ⟨hy24_, hz24_⟩ := Kd.R_celln 0 HO_3.out ((rd (rd_L1 l0 x18_2) x24_3) : Int) (zd) (zd))); (try (have HP24 := Kd.R_putg HO_3.out ((rd (rd_L1 l0 x18_2) x24_3) : Int) ji15)))); refine store_event (t := 3) (p := 59) (v := ?vo_w25) (w1 := (w23.setCell ⟨go19, ((rd (rd_L1 l0 x18_2) x24_3) : Int).toNat, none⟩ (.int .i64 ji15))) ?hg ?ho ?hn ?hr ?_; (case ho => rfl); (case hg => rfl); (case hn => rfl); (case hr => first | (go_simp; done) | (go_simp; rfl) | (go_simp; congr 2; rw [← hji15]; unfold mn; omega)); intro w25 hw; have hg : w23.grownBy w25 (some go19) := (by rw [hw]; exact HP24.2); have hp_ : Kd.R (Kd.int .i64) 3 w25 w.heap.size (fun _ => True) (.slice (some ⟨go19, 0, none⟩) x3_3.length co21) y116 := (by rw [hw, Ny116.out]; exact HP24.1); clear HP24; replace HO_3 := A0_ (hp_); replace HB := A0_ ((by rw [hw]; exact bS (HB.out) GB19.out : Below w.heap.size w w25)); clear hg hw hp_)); try go_wp2_with (first | ((with_reducible refine gS (t := 3) (p := 58) rfl ?_); (try (rw [drewN_self wr]; generalize hq_ : World.drewN wr _ = wr; have n0_ := A0_ (Kd.R_at hq_ HO_3.out); have n1_ := A0_ (below_at hq_ HB.out); clear hq_ HO_3 HB; have HO_3 := n0_; have HB := n1_; clear n0_ n1_; (try (obtain ⟨hx19_0, hf19_0⟩ := Kd.R_celln 0 HO_3.out (x24_3 : Int) (of_eq_true p19) (of_eq_true q19))); (try (have HP22 := Kd.R_putg HO_3.out (x24_3 : Int) ji15)))); refine store_event (t := 3) (p := 58) (v := ?vo_w23) (w1 := (wr.setCell ⟨go19, (x24_3 : Int).toNat, none⟩ (.int .i64 ji15))) ?hg ?ho ?hn ?hr ?_; (case ho => rfl); (case hg => rfl); (case hn => rfl); (case hr => first | (go_simp; done) | (go_simp; rfl) | (go_simp; congr 2; rw [← hji15]; unfold mn; omega)); intro w23 hw; have hg : wr.grownBy w23 (some go19) := (by rw [hw]; exact HP22.2); have hp_ : Kd.R (Kd.int .i64) 3 w23 w.heap.size (fun _ => True) (.slice (some ⟨go19, 0, none⟩) x3_3.length co21) y115 := (by rw [hw, Ny115.out]; exact HP22.1); clear HP22; have n0_ := A0_ (hp_); have n1_ := A0_ ((by rw [hw]; exact bS (HB.out) GB19.out : Below w.heap.size w w23)); clear HO_3 HB; have HO_3 := n0_; have HB := n1_; clear n0_ n1_ hg hw hp_; have p20 : 0 ≤ ((rd (rd_L1 l0 x18_2) x24_3) : Int) := zd; have q20 : ((rd (rd_L1 l0 x18_2) x24_3) : Int) < ((x3_3.length : Int) : Int) := zd; obtain ⟨hx20_0, hf20_0⟩ := Kd.R_celln 0 HO_3.out ((rd (rd_L1 l0 x18_2) x24_3) : Int) p20 q20; replace p20 := eq_true p20; replace q20 := eq_true q20; obtain ⟨hy24_, hz24_⟩ := Kd.R_celln 0 HO_3.out ((rd (rd_L1 l0 x18_2) x24_3) : Int) (zd) (zd); have HP24 := Kd.R_putg HO_3.out ((rd (rd_L1 l0 x18_2) x24_3) : Int) ji15) | ((with_reducible refine gS (t := 3) (p := 59) rfl ?_); (try (rw [drewN_self w23]; generalize hq_ : World.drewN w23 _ = w23; have n0_ := A0_ (Kd.R_at hq_ HO_3.out); have n1_ := A0_ (below_at hq_ HB.out); clear hq_ HO_3 HB; have HO_3 := n0_; have HB := n1_; clear n0_ n1_; (try (obtain ⟨hx19_0, hf19_0⟩ := Kd.R_celln 0 HO_3.out (x24_3 : Int) (of_eq_true p19) (of_eq_true q19))); (try (obtain ⟨hy24_, hz24_⟩ := Kd.R_celln 0 HO_3.out ((rd (rd_L1 l0 x18_2) x24_3) : Int) (zd) (zd))); (try (have HP24 := Kd.R_putg HO_3.out ((rd (rd_L1 l0 x18_2) x24_3) : Int) ji15)))); refine store_event (t := 3) (p := 59) (v := ?vo_w25) (w1 := (w23.setCell ⟨go19, ((rd (rd_L1 l0 x18_2) x24_3) : Int).toNat, none⟩ (.int .i64 ji15))) ?hg ?ho ?hn ?hr ?_; (case ho => rfl); (case hg => rfl); (case hn => rfl); (case hr => first | (go_simp; done) | (go_simp; rfl) | (go_simp; congr 2; rw [← hji15]; unfold mn; omega)); intro w25 hw; have hg : w23.grownBy w25 (some go19) := (by rw [hw]; exact HP24.2); have hp_ : Kd.R (Kd.int .i64) 3 w25 w.heap.size (fun _ => True) (.slice (some ⟨go19, 0, none⟩) x3_3.length co21) y116 := (by rw [hw, Ny116.out]; exact HP24.1); clear HP24; have n0_ := A0_ (hp_); have n1_ := A0_ ((by rw [hw]; exact bS (HB.out) GB19.out : Below w.heap.size w w25)); clear HO_3 HB; have HO_3 := n0_; have HB := n1_; clear n0_ n1_ hg hw hp_)))
                   go_roundg k3
                   case measure => have := HK1.out; have := HK2.out; have := HK3.out; omega
                   case rel => exact ⟨(y116), (true), (wrap64 (x24_3 + 1)), zt, zt, H', ⟨by have := HK1.out; have := HK2.out; have := HK3.out; omega⟩, ⟨zR_ HO_3⟩, ⟨zB_ HB⟩⟩
                  rw [if_neg c16] at H
                  have c16b0 : ((rd x3_3 x24_3) == (ji15)) = false := beq_eq_false_iff_ne.mpr c16
                  have c16b1 : ((rd x3_3 x24_3) != (ji15)) = true := bne_iff_ne.mpr c16
                  obtain ⟨y117, hy117⟩ : ∃ y_ : List Int, y_ = (x3_3.set (x24_3 : Int).toNat (ji15)) := ⟨_, rfl⟩
                  replace H : (impl_orbits.l2 k3 l0 (y117.set ((rd (rd_L1 l0 x18_2) x24_3) : Int).toNat (ji15)) true l0 (l0.length : Int) x18_2 (rd_L1 l0 x18_2) ((rd_L1 l0 x18_2).length : Int) (wrap64 (x24_3 + 1))) = some r := zH hy117 H
                  have Ny117 := A0_ hy117; clear hy117
                  obtain ⟨y118, hy118⟩ : ∃ y_ : List Int, y_ = (y117.set ((rd (rd_L1 l0 x18_2) x24_3) : Int).toNat (ji15)) := ⟨_, rfl⟩
                  replace H : (impl_orbits.l2 k3 l0 y118 true l0 (l0.length : Int) x18_2 (rd_L1 l0 x18_2) ((rd_L1 l0 x18_2).length : Int) (wrap64 (x24_3 + 1))) = some r := zH hy118 H
                  have Ny118 := A0_ hy118; clear hy118; have H' := A0_ H; clear H
                  have p110 : 0 ≤ (x24_3 : Int) := zd
                  have q110 : x24_3 < ((rd_L1 l0 x18_2).length : Int) := zd
                  obtain ⟨ad110, e110, hx110_0⟩ := tI HR109_0.out x24_3 p110 q110
                  cases e110
                  try replace hx110_0 := (HB.out.cell (wL w _ hx110_0)).trans hx110_0
                  replace p110 := eq_true p110; replace q110 := eq_true q110; obtain ⟨Ao28, co28, eo28⟩ := rS HO_3.out; subst eo28
                  have p111 : 0 ≤ (x24_3 : Int) := zd
                  have q111 : x24_3 < (x3_3.length : Int) := zd
                  obtain ⟨ad111, e111, hx111_0⟩ := tI (rR HO_3.out).2.2 x24_3 p111 q111
                  cases e111
                  replace p111 := eq_true p111; replace q111 := eq_true q111
                  have p112 : 0 ≤ ((rd (rd_L1 l0 x18_2) x24_3) : Int) := zd
                  have q112 : (rd (rd_L1 l0 x18_2) x24_3) < (x3_3.length : Int) := zd
                  obtain ⟨ad112, e112, hx112_0⟩ := tI (rR HO_3.out).2.2 (rd (rd_L1 l0 x18_2) x24_3) p112 q112
                  obtain rfl : ad111 = ad112 := (by injection e112)
                  replace p112 := eq_true p112; replace q112 := eq_true q112
                  have p113 : 0 ≤ (x24_3 : Int) := zd
                  have q113 : x24_3 < (x3_3.length : Int) := zd
                  obtain ⟨ad113, e113, hx113_0⟩ := tI (rR HO_3.out).2.2 x24_3 p113 q113
                  obtain rfl : ad111 = ad113 := (by injection e113)
                  replace p113 := eq_true p113; replace q113 := eq_true q113
                  have p26 : 0 ≤ (x24_3 : Int) := zd
                  have q26 : (x24_3 : Int) < ((x3_3.length : Int) : Int) := zd
                  obtain ⟨go26, co26, eo26, gb26, gl26, cl26, HG26⟩ := Kd.R_form HO_3.out (by omega)
                  (first | cases eo26 | (injection eo26 with ea_ en_ ec_; (first | subst ea_ | (injection ea_ with ea_; subst ea_)); subst ec_; clear en_))
                  have GB26 := A0_ gb26; have GG26 := A0_ HG26; clear gb26 gl26 HG26
                  (first | simp only [add_plain] at hx111_0 | skip)
                  (first | simp only [add_plain] at hx112_0 | skip)
                  (first | simp only [add_plain] at hx113_0 | skip)
                  obtain ⟨hx26_0, hf26_0⟩ := Kd.R_celln 0 HO_3.out (x24_3 : Int) p26 q26
                  replace p26 := eq_true p26; replace q26 := eq_true q26
                  have HP29 := Kd.R_putg HO_3.out (x24_3 : Int) ji15
                  go_wp2_with (first | ((with_reducible refine gS (t := 3) (p := 58) rfl ?_); (try (rw [drewN_self wr]; generalize hq_ : World.drewN wr _ = wr; have n0_ := A0_ (Kd.R_at hq_ HO_3.out); have n1_ := A0_ (below_at hq_ HB.out); clear hq_ HO_3 HB; have HO_3 := n0_; have HB := n1_; clear n0_ n1_; (try (obtain ⟨hx26_0, hf26_0⟩ := Kd.R_celln 0 HO_3.out (x24_3 : Int) (of_eq_true p26) (of_eq_true q26))); (try (have HP29 := Kd.R_putg HO_3.out (x24_3 : Int) ji15)))); refine store_event (t := 3) (p := 58) (v := ?vo_w30) (w1 := (wr.setCell ⟨go26, (x24_3 : Int).toNat, none⟩ (.int .i64 ji15))) ?hg ?ho ?hn ?hr ?_; (case ho => rfl); (case hg => rfl); (case hn => rfl); (case hr => first | (go_simp; done) | (go_simp; rfl) | (go_simp; congr 2; rw [← hji15]; unfold mn; omega)); intro w30 hw; have hg : wr.grownBy w30 (some go26) := (by rw [hw]; exact HP29.2); have hp_ : Kd.R (Kd.int .i64) 3 w30 w.heap.size (fun _ => True) (.slice (some ⟨go26, 0, none⟩) x3_3.length co28) y117 := (by rw [hw, Ny117.out]; exact HP29.1); clear HP29; replace HO_3 := A0_ (hp_); replace HB := A0_ ((by rw [hw]; exact bS (HB.out) GB26.out : Below w.heap.size w w30)); clear hg hw hp_; have p27 : 0 ≤ ((rd (rd_L1 l0 x18_2) x24_3) : Int) := zd; have q27 : ((rd (rd_L1 l0 x18_2) x24_3) : Int) < ((x3_3.length : Int) : Int) := zd; obtain ⟨hx27_0, hf27_0⟩ := Kd.R_celln 0 HO_3.out ((rd (rd_L1 l0 x18_2) x24_3) : Int) p27 q27; replace p27 := eq_true p27; replace q27 := eq_true q27; obtain ⟨hy31_, hz31_⟩ := Kd.R_celln 0 HO_3.out ((rd (rd_L1 l0 x18_2) x24_3) : Int) (zd) (zd); have HP31 := Kd.R_putg HO_3.out ((rd (rd_L1 l0 x18_2) x24_3) : Int) ji15) | ((with_reducible refine gS (t := 3) (p := 59) rfl ?_); (try (rw [drewN_self w30]; generalize hq_ : World.drewN w30 _ = w30; have n0_ := A0_ (Kd.R_at hq_ HO_3.out); have n1_ := A0_ (below_at hq_ HB.out); clear hq_ HO_3 HB; have HO_3 := n0_; have HB := n1_; clear n0_ n1_; (try (obtain ⟨hx26_0, hf26_0⟩ := Kd.R_celln 0 HO_3.out (x24_3 : Int) (of_eq_true p26) (of_eq_true q26))); (try (obtain ⟨hy31_, hz31_⟩ := Kd.R_celln 0 HO_3.out ((rd (rd_L1 l0 x18_2) x24_3) : Int) (zd) (zd))); (try (have HP31 := Kd.R_putg HO_3.out ((rd (rd_L1 l0 x18_2) x24_3) : Int) ji15)))); refine store_event (t := 3) (p := 59) (v := ?vo_w32) (w1 := (w30.setCell ⟨go26, ((rd (rd_L1 l0 x18_2) x24_3) : Int).toNat, none⟩ (.int .i64 ji15))) ?hg ?ho ?hn ?hr ?_; (case ho => rfl); (case hg => rfl); (case hn => rfl); (case hr => first | (go_simp; done) | (go_simp; rfl) | (go_simp; congr 2; rw [← hji15]; unfold mn; omega)); intro w32 hw; have hg : w30.grownBy w32 (some go26) := (by rw [hw]; exact HP31.2); have hp_ : Kd.R (Kd.int .i64) 3 w32 w.heap.size (fun _ => True) (.slice (some ⟨go26, 0, none⟩) x3_3.length co28) y118 := (by rw [hw, Ny118.out]; exact HP31.1); clear HP31; replace HO_3 := A0_ (hp_); replace HB := A0_ ((by rw [hw]; exact bS (HB.out) GB26.out : Below w.heap.size w w32)); clear hg hw hp_))
                  repeat (go_quiet (first | ((with_reducible refine gS (t := 3) (p := 58) rfl ?_); (try (rw [drewN_self wr]; generalize hq_ : World.drewN wr _ = wr; have n0_ := A0_ (Kd.R_at hq_ HO_3.out); have n1_ := A0_ (below_at hq_ HB.out); clear hq_ HO_3 HB; have HO_3 := n0_; have HB := n1_; clear n0_ n1_; (try (obtain ⟨hx26_0, hf26_0⟩ := Kd.R_celln 0 HO_3.out (x24_3 : Int) (of_eq_true p26) (of_eq_true q26))); (try (have HP29 := Kd.R_putg HO_3.out (x24_3 : Int) ji15)))); refine store_event (t := 3) (p := 58) (v := ?vo_w30) (w1 := (wr.setCell ⟨go26, (x24_3 : Int).toNat, none⟩ (.int .i64 ji15))) ?hg ?ho ?hn ?hr ?_; (case ho => rfl); (case hg => rfl); (case hn => rfl); (case hr => first | (go_simp; done) | (go_simp; rfl) | (go_simp; congr 2; rw [← hji15]; unfold mn; omega)); intro w30 hw; have hg : wr.grownBy w30 (some go26) := (by rw [hw]; exact HP29.2); have hp_ : Kd.R (Kd.int .i64) 3 w30 w.heap.size (fun _ => True) (.slice (some ⟨go26, 0, none⟩) x3_3.length co28) y117 := (by rw [hw, Ny117.out]; exact HP29.1); clear HP29; replace HO_3 := A0_ (hp_); replace HB := A0_ ((by rw [hw]; exact bS (HB.out) GB26.out : Below w.heap.size w w30)); clear hg hw hp_; have p27 : 0 ≤ ((rd (rd_L1 l0 x18_2) x24_3) : Int) := zd; have q27 : ((rd (rd_L1 l0 x18_2) x24_3) : Int) < ((x3_3.length : Int) : Int) := zd; obtain ⟨hx27_0, hf27_0⟩ := Kd.R_celln 0 HO_3.out ((rd (rd_L1 l0 x18_2) x24_3) : Int) p27 q27; replace p27 := eq_true p27; replace q27 := eq_true q27; obtain ⟨hy31_, hz31_⟩ := Kd.R_celln 0 HO_3.out ((rd (rd_L1 l0 x18_2) x24_3) : Int) (zd) (zd); have HP31 := Kd.R_putg HO_3.out ((rd (rd_L1 l0 x18_2) x24_3) : Int) ji15) | ((with_reducible refine gS (t := 3) (p := 59) rfl ?_); (try (rw [drewN_self w30]; generalize hq_ : World.drewN w30 _ = w30; have n0_ := A0_ (Kd.R_at hq_ HO_3.out); have n1_ := A0_ (below_at hq_ HB.out); clear hq_ HO_3 HB; have HO_3 := n0_; have HB := n1_; clear n0_ n1_; (try (obtain ⟨hx26_0, hf26_0⟩ := Kd.R_celln 0 HO_3.out (x24_3 : Int) (of_eq_true p26) (of_eq_true q26))); (try (obtain ⟨hy31_, hz31_⟩ := Kd.R_celln 0 HO_3.out ((rd (rd_L1 l0 x18_2) x24_3) : Int) (zd) (zd))); (try (have HP31 := Kd.R_putg HO_3.out ((rd (rd_L1 l0 x18_2) x24_3) : Int) ji15)))); refine store_event (t := 3) (p := 59) (v := ?vo_w32) (w1 := (w30.setCell ⟨go26, ((rd (rd_L1 l0 x18_2) x24_3) : Int).toNat, none⟩ (.int .i64 ji15))) ?hg ?ho ?hn ?hr ?_; (case ho => rfl); (case hg => rfl); (case hn => rfl); (case hr => first | (go_simp; done) | (go_simp; rfl) | (go_simp; congr 2; rw [← hji15]; unfold mn; omega)); intro w32 hw; have hg : w30.grownBy w32 (some go26) := (by rw [hw]; exact HP31.2); have hp_ : Kd.R (Kd.int .i64) 3 w32 w.heap.size (fun _ => True) (.slice (some ⟨go26, 0, none⟩) x3_3.length co28) y118 := (by rw [hw, Ny118.out]; exact HP31.1); clear HP31; replace HO_3 := A0_ (hp_); replace HB := A0_ ((by rw [hw]; exact bS (HB.out) GB26.out : Below w.heap.size w w32)); clear hg hw hp_)); try go_wp2_with (first | ((with_reducible refine gS (t := 3) (p := 58) rfl ?_); (try (rw [drewN_self wr]; generalize hq_ : World.drewN wr _ = wr; have n0_ := A0_ (Kd.R_at hq_ HO_3.out); have n1_ := A0_ (below_at hq_ HB.out); clear hq_ HO_3 HB; have HO_3 := n0_; have HB := n1_; clear n0_ n1_; (try (obtain ⟨hx26_0, hf26_0⟩ := Kd.R_celln 0 HO_3.out (x24_3 : Int) (of_eq_true p26) (of_eq_true q26))); (try (have HP29 := Kd.R_putg HO_3.out (x24_3 : Int) ji15)))); refine store_event (t := 3) (p := 58) (v := ?vo_w30) (w1 := (wr.setCell ⟨go26, (x24_3 : Int).toNat, none⟩ (.int .i64 ji15))) ?hg ?ho ?hn ?hr ?_; (case ho => rfl); (case hg => rfl); (case hn => rfl); (case hr => first | (go_simp; done) | (go_simp; rfl) | (go_simp; congr 2; rw [← hji15]; unfold mn; omega)); intro w30 hw; have hg : wr.grownBy w30 (some go26) := (by rw [hw]; exact HP29.2); have hp_ : Kd.R (Kd.int .i64) 3 w30 w.heap.size (fun _ => True) (.slice (some ⟨go26, 0, none⟩) x3_3.length co28) y117 := (by rw [hw, Ny117.out]; exact HP29.1); clear HP29; have n0_ := A0_ (hp_); have n1_ := A0_ ((by rw [hw]; exact bS (HB.out) GB26.out : Below w.heap.size w w30)); clear HO_3 HB; have HO_3 := n0_; have HB := n1_; clear n0_ n1_ hg hw hp_; have p27 : 0 ≤ ((rd (rd_L1 l0 x18_2) x24_3) : Int) := zd; have q27 : ((rd (rd_L1 l0 x18_2) x24_3) : Int) < ((x3_3.length : Int) : Int) := zd; obtain ⟨hx27_0, hf27_0⟩ := Kd.R_celln 0 HO_3.out ((rd (rd_L1 l0 x18_2) x24_3) : Int) p27 q27; replace p27 := eq_true p27; replace q27 := eq_true q27; obtain ⟨hy31_, hz31_⟩ := Kd.R_celln 0 HO_3.out ((rd (rd_L1 l0 x18_2) x24_3) : Int) (zd) (zd); have HP31 := Kd.R_putg HO_3.out ((rd (rd_L1 l0 x18_2) x24_3) : Int) ji15) | ((with_reducible refine gS (t := 3) (p := 59) rfl ?_); (try (rw [drewN_self w30]; generalize hq_ : World.drewN w30 _ = w30; have n0_ := A0_ (Kd.R_at hq_ HO_3.out); have n1_ := A0_ (below_at hq_ HB.out); clear hq_ HO_3 HB; have HO_3 := n0_; have HB := n1_; clear n0_ n1_; (try (obtain ⟨hx26_0, hf26_0⟩ := Kd.R_celln 0 HO_3.out (x24_3 : Int) (of_eq_true p26) (of_eq_true q26))); (try (obtain ⟨hy31_, hz31_⟩ := Kd.R_celln 0 HO_3.out ((rd (rd_L1 l0 x18_2) x24_3) : Int) (zd) (zd))); (try (have HP31 := Kd.R_putg HO_3.out ((rd (rd_L1 l0 x18_2) x24_3) : Int) ji15)))); refine store_event (t := 3) (p := 59) (v := ?vo_w32) (w1 := (w30.setCell ⟨go26, ((rd (rd_L1 l0 x18_2) x24_3) : Int).toNat, none⟩ (.int .i64 ji15))) ?hg ?ho ?hn ?hr ?_; (case ho => rfl); (case hg => rfl); (case hn => rfl); (case hr => first | (go_simp; done) | (go_simp; rfl) | (go_simp; congr 2; rw [← hji15]; unfold mn; omega)); intro w32 hw; have hg : w30.grownBy w32 (some go26) := (by rw [hw]; exact HP31.2); have hp_ : Kd.R (Kd.int .i64) 3 w32 w.heap.size (fun _ => True) (.slice (some ⟨go26, 0, none⟩) x3_3.length co28) y118 := (by rw [hw, Ny118.out]; exact HP31.1); clear HP31; have n0_ := A0_ (hp_); have n1_ := A0_ ((by rw [hw]; exact bS (HB.out) GB26.out : Below w.heap.size w w32)); clear HO_3 HB; have HO_3 := n0_; have HB := n1_; clear n0_ n1_ hg hw hp_)))
                  go_roundg k3
                  case measure => have := HK1.out; have := HK2.out; have := HK3.out; omega
                  case rel => exact ⟨(y118), (true), (wrap64 (x24_3 + 1)), zt, zt, H', ⟨by have := HK1.out; have := HK2.out; have := HK3.out; omega⟩, ⟨zR_ HO_3⟩, ⟨zB_ HB⟩⟩
                 rw [if_neg c14] at H
                 exact absurd H (by simp)
                rw [if_neg c13] at H
                exact absurd H (by simp)
               rw [if_neg c12] at H
               exact absurd H (by simp)
              rw [if_neg c11] at H
              exact absurd H (by simp)
             rw [if_neg c10] at H
             exact absurd H (by simp)
            rw [if_neg c9] at H; have c9b0 := dF c9; clear c9; have H' := A0_ H; clear H
            go_wp2
            repeat (go_quiet (fail); try go_wp2)
            go_roundg k3
            case measure => have := HK1.out; have := HK2.out; have := HK3.out; omega
            case rel => exact ⟨(x3_3), (x4_3), (wrap64 (x18_2 + 1)), zt, zt, H', ⟨by have := HK1.out; have := HK2.out; have := HK3.out; omega⟩, ⟨zR_ HO_3⟩, ⟨zB_ HB⟩⟩
         rw [if_neg c8] at H
         exact absurd H (by simp)
        rw [if_neg c7] at H
        exact absurd H (by simp)
       rw [if_neg c6] at H; have c6b0 := dF c6; clear c6; have H' := A0_ H; clear H
       go_wp2
       repeat (go_quiet (fail); try go_wp2)
       go_roundg k2
       case measure => have := HK1.out; have := HK2.out; omega
       case rel => exact ⟨(x3_2), (x4_2), zt, H', ⟨by have := HK1.out; have := HK2.out; omega⟩, ⟨zR_ HO_3⟩, ⟨zB_ HB⟩⟩
    replace c5 := Bool.eq_false_iff.mpr c5; subst c5
    rw [if_neg (show ¬ (false = true) by decide)] at H
    obtain rfl := sI H
    go_wp2
    repeat (go_quiet (fail); try go_wp2)
    go_ret
    exact ⟨_, by first | rfl | (simp [*] <;> rfl), zR_ HO_3, zB_ HB⟩
 rw [if_neg c2] at H
 exact absurd H (by simp)

end Go.Proofs.YtjebcgbmlbemcaaGreatDoor.PFnExecuteValue
