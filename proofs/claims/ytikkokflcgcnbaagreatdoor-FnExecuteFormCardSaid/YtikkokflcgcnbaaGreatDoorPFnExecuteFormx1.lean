-- Made by a program of this session (wip/tools) out of the loaded program; not trusted: Lean checks it.
import Derived.Test.YtikkokflcgcnbaaGreatDoorPFnExecuteFormx0
-- packed
namespace Go.Proofs.YtikkokflcgcnbaaGreatDoor.PFnExecuteForm
open Go.RowKit Go.Proofs.YtikkokflcgcnbaaGreatDoorW.PrintWords Go.Proofs.YtikkokflcgcnbaaGreatDoorW.PrintLast Go.Proofs.YtikkokflcgcnbaaGreatDoorW.PrintMore
attribute [local go_sem] max2_int min2_int max_two min_two max_three min_three max_four min_four   -- for this text's walks alone
set_option linter.unusedVariables false
set_option linter.unusedSimpArgs false

/-! ### laws_sameInts: function 21 -/
def laws_sameInts.l0 : Nat → List Int → List Int → Int → Option (Bool)
  | 0, _, _, _ => none
  | k + 1, x0, x1, x5 => if x5 < (x0.length : Int) then (if 0 ≤ x5 then (if x5 < (x1.length : Int) then (if (rd x0 x5) = (rd x1 x5) then (laws_sameInts.l0 k x0 x1 (wrap64 (x5 + 1))) else (some false)) else (none)) else (none)) else (some true)
def laws_sameInts.f (k : Nat) (l0 : List Int) (l1 : List Int) : Option (Bool) := if (l0.length : Int) = (l1.length : Int) then (laws_sameInts.l0 k l0 l1 0) else (some false)
set_option maxHeartbeats 8000000 in
set_option maxRecDepth 100000 in
theorem laws_sameInts.calls (k : Nat) (A0 : Option Addr) (c0 : Nat) (l0 : List Int) (A1 : Option Addr) (c1 : Nat) (l1 : List Int) (r : Bool) (w : World) (hr0 : Kd.C (Kd.int .i64) w A0 l0.length l0) (hc0 : l0.length ≤ c0) (hr1 : Kd.C (Kd.int .i64) w A1 l1.length l1) (hc1 : l1.length ≤ c1) (h : laws_sameInts.f k l0 l1 = some r) :
    Calls Tryz.prog 21 #[.slice A0 l0.length c0, .slice A1 l1.length c1] w fun e w' => e = .returned (.bool r) ∧ Drawn0 w w' := by
 have HR0 := A0_ hr0; have HC0 := A0_ hc0; clear hr0 hc0; have HR1 := A0_ hr1; have HC1 := A0_ hc1; clear hr1 hc1
 have H : (if (l0.length : Int) = (l1.length : Int) then (laws_sameInts.l0 k l0 l1 0) else (some false)) = some r := h
 clear h
 by_cases c3 : (l0.length : Int) = (l1.length : Int)
 ·rw [if_pos c3] at H
  have c3b0 : ((l0.length : Int) == (l1.length : Int)) = true := beq_iff_eq.mpr c3
  have c3b1 : ((l0.length : Int) != (l1.length : Int)) = false := bne_eq_false_iff_eq.mpr c3
  have c3b2 : (l0.length == l1.length) = true := by first | simpa using c3 | (simp at c3 ⊢; omega)
  clear c3; have H' := A0_ H; clear H
  go_enter Tryz.func21, Tryz.ntmps21
  go_wp2
  repeat (go_quiet (fail); try go_wp2)
  go_loopg [5] k (fun kq v5 w' => ∃ (x5_1 : Int), v5 = .int .i64 x5_1 ∧ Aside0 (laws_sameInts.l0 kq l0 l1 x5_1 = some r) ∧ Aside0 (kq ≤ k) ∧ Drawn0 w w')
  case atStart => exact ⟨(0), zt, H', ⟨Nat.le_refl _⟩, by repeat (first | exact Drawn0.refl _ | apply Drawn0.step)⟩
  case round =>
   clear H'; (try clear c1); (try clear c2); (try clear p2); (try clear c3); (try clear c3b0); (try clear c3b1); (try clear c3b2); obtain ⟨x5_1, rfl, HA, HK1, ⟨m1, rfl⟩⟩ := hrel
   cases gk with
   | zero => exact absurd HA.out (by simp [laws_sameInts.l0])
   | succ k1 =>
    have H := HA.out; clear HA; simp only [laws_sameInts.l0] at H
    by_cases c4 : x5_1 < (l0.length : Int)
    ·rw [if_pos c4] at H
     have c4b0 := dT c4; clear c4
     by_cases c5 : 0 ≤ x5_1
     ·rw [if_pos c5] at H
      have c5b0 := dT c5; clear c5
      by_cases c6 : x5_1 < (l1.length : Int)
      ·rw [if_pos c6] at H
       have c6b0 := dT c6; clear c6
       by_cases c7 : (rd l0 x5_1) = (rd l1 x5_1)
       ·rw [if_pos c7] at H
        have c7b0 : ((rd l0 x5_1) == (rd l1 x5_1)) = true := beq_iff_eq.mpr c7
        have c7b1 : ((rd l0 x5_1) != (rd l1 x5_1)) = false := bne_eq_false_iff_eq.mpr c7
        clear c7; have H' := A0_ H; clear H
        have p101 : 0 ≤ (x5_1 : Int) := zd
        have q101 : x5_1 < (l0.length : Int) := zd
        obtain ⟨ad101, e101, hx101_0⟩ := tI HR0.out x5_1 p101 q101
        cases e101
        replace p101 := eq_true p101; replace q101 := eq_true q101
        have p102 : 0 ≤ (x5_1 : Int) := zd
        have q102 : x5_1 < (l1.length : Int) := zd
        obtain ⟨ad102, e102, hx102_0⟩ := tI HR1.out x5_1 p102 q102
        cases e102
        replace p102 := eq_true p102; replace q102 := eq_true q102
        go_wp2
        repeat (go_quiet (fail); try go_wp2)
        go_roundg k1
        case measure => have := HK1.out; omega
        case rel => exact ⟨(wrap64 (x5_1 + 1)), zt, H', ⟨by have := HK1.out; omega⟩, by repeat (first | exact Drawn0.refl _ | apply Drawn0.step)⟩
       rw [if_neg c7] at H
       have c7b0 : ((rd l0 x5_1) == (rd l1 x5_1)) = false := beq_eq_false_iff_ne.mpr c7
       have c7b1 : ((rd l0 x5_1) != (rd l1 x5_1)) = true := bne_iff_ne.mpr c7
       obtain rfl := sI H
       have p101 : 0 ≤ (x5_1 : Int) := zd
       have q101 : x5_1 < (l0.length : Int) := zd
       obtain ⟨ad101, e101, hx101_0⟩ := tI HR0.out x5_1 p101 q101
       cases e101
       replace p101 := eq_true p101; replace q101 := eq_true q101
       have p102 : 0 ≤ (x5_1 : Int) := zd
       have q102 : x5_1 < (l1.length : Int) := zd
       obtain ⟨ad102, e102, hx102_0⟩ := tI HR1.out x5_1 p102 q102
       cases e102
       replace p102 := eq_true p102; replace q102 := eq_true q102
       go_wp2
       repeat (go_quiet (fail); try go_wp2)
       go_ret
       exact ⟨by first | rfl | (simp; done) | (simp [*]; done), by repeat (first | exact Drawn0.refl _ | apply Drawn0.step)⟩
      rw [if_neg c6] at H
      exact absurd H (by simp)
     rw [if_neg c5] at H
     exact absurd H (by simp)
    rw [if_neg c4] at H; have c4b0 := dF c4; clear c4; obtain rfl := sI H
    go_wp2
    repeat (go_quiet (fail); try go_wp2)
    go_ret
    exact ⟨by first | rfl | (simp; done) | (simp [*]; done), by repeat (first | exact Drawn0.refl _ | apply Drawn0.step)⟩
 rw [if_neg c3] at H
 have c3b0 : ((l0.length : Int) == (l1.length : Int)) = false := beq_eq_false_iff_ne.mpr c3
 have c3b1 : ((l0.length : Int) != (l1.length : Int)) = true := bne_iff_ne.mpr c3
 have c3b2 : (l0.length == l1.length) = false := by first | simpa using c3 | (simp at c3 ⊢; omega)
 obtain rfl := sI H
 go_enter Tryz.func21, Tryz.ntmps21
 go_wp2
 repeat (go_quiet (fail); try go_wp2)
 go_ret
 exact ⟨by first | rfl | (simp; done) | (simp [*]; done), by repeat (first | exact Drawn0.refl _ | apply Drawn0.step)⟩

/-! ### laws_sameMap: function 10 -/
def laws_sameMap.f (k : Nat) (l0_0 : List Int) (l0_1 : List Int) (l1_0 : List Int) (l1_1 : List Int) : Option (Bool) := (laws_sameInts.f k l0_0 l1_0).bind fun t105 => (if t105 = true then ((laws_sameInts.f k l0_1 l1_1).bind fun t106 => (some t106)) else (some false))
set_option maxHeartbeats 8000000 in
set_option maxRecDepth 100000 in
theorem laws_sameMap.calls (k : Nat) (A0_0 : Option Addr) (c0_0 : Nat) (l0_0 : List Int) (A0_1 : Option Addr) (c0_1 : Nat) (l0_1 : List Int) (A1_0 : Option Addr) (c1_0 : Nat) (l1_0 : List Int) (A1_1 : Option Addr) (c1_1 : Nat) (l1_1 : List Int) (r : Bool) (w : World) (hr0_0 : Kd.C (Kd.int .i64) w A0_0 l0_0.length l0_0) (hc0_0 : l0_0.length ≤ c0_0) (hr0_1 : Kd.C (Kd.int .i64) w A0_1 l0_1.length l0_1) (hc0_1 : l0_1.length ≤ c0_1) (hr1_0 : Kd.C (Kd.int .i64) w A1_0 l1_0.length l1_0) (hc1_0 : l1_0.length ≤ c1_0) (hr1_1 : Kd.C (Kd.int .i64) w A1_1 l1_1.length l1_1) (hc1_1 : l1_1.length ≤ c1_1) (h : laws_sameMap.f k l0_0 l0_1 l1_0 l1_1 = some r) :
    Calls Tryz.prog 10 #[.agg #[.slice A0_0 l0_0.length c0_0, .slice A0_1 l0_1.length c0_1], .agg #[.slice A1_0 l1_0.length c1_0, .slice A1_1 l1_1.length c1_1]] w fun e w' => e = .returned (.bool r) ∧ Below w.heap.size w w' := by
 have hu25 := Tryz.underlying25; have HR0_0 := A0_ hr0_0; have HC0_0 := A0_ hc0_0; clear hr0_0 hc0_0; have HR0_1 := A0_ hr0_1; have HC0_1 := A0_ hc0_1; clear hr0_1 hc0_1; have HR1_0 := A0_ hr1_0; have HC1_0 := A0_ hc1_0; clear hr1_0 hc1_0; have HR1_1 := A0_ hr1_1; have HC1_1 := A0_ hc1_1; clear hr1_1 hc1_1
 have HB := A0_ (Below.refl w.heap.size w)
 have H : ((laws_sameInts.f k l0_0 l1_0).bind fun t105 => (if t105 = true then ((laws_sameInts.f k l0_1 l1_1).bind fun t106 => (some t106)) else (some false))) = some r := h
 clear h; obtain ⟨t105, A3, H⟩ := zbind H
 by_cases c4 : t105 = true
 ·subst c4
  rw [if_pos rfl] at H; obtain ⟨t106, A5, H⟩ := zbind H; obtain rfl := sI H
  go_enter Tryz.func10, Tryz.ntmps10
  go_wp2_with (first | ((with_reducible refine gD (N := 2) rfl ?_); refine zX (N := 2) (cs := #[.slice A0_0 l0_0.length c0_0, .slice A0_1 l0_1.length c0_1]) (t := 25) ?_; intro gb103 hg w6 hbox hb; have BK103 := A0_ (hbox); have GW103 := zG hg HB; have GE103 := zG hg HB; replace HB := zB HB hb; clear hb hbox hg) | ((with_reducible refine gD (N := 3) rfl ?_); refine zX (N := 3) (cs := #[.slice A1_0 l1_0.length c1_0, .slice A1_1 l1_1.length c1_1]) (t := 25) ?_; intro gb104 hg w7 hbox hb; have BK104 := A0_ (hbox); have GW104 := zG hg HB; have GE104 := zG hg HB; replace HB := zB HB hb; have NB103_104 := zL hg BK103; have NB104_103 := zM hg BK103; replace BK103 := zK BK103 hb; clear hb hbox hg; have hnb8 := NB103_104.out; have hnc8 := NB104_103.out; have hcz9_0 := zc0 BK103; have hcz9_1 := zc1 BK103; have hfz9_0 := kF BK103.out 0; have hfz9_1 := kF BK103.out 1; have hcz10_0 := zc0 BK104; have hcz10_1 := zc1 BK104; have hfz10_0 := kF BK104.out 0; have hfz10_1 := kF BK104.out 1) | ((with_reducible refine gC (f := 21) rfl ?_); refine zJ (some 9) Tryz.func21 #[.slice A0_0 l0_0.length c0_0, .slice A1_0 l1_0.length c1_0] ?_; (with_reducible refine (laws_sameInts.calls k _ _ l0_0 _ _ l1_0 true _ ?side1 ?side2 ?side3 ?side4 A3.out).mono ?_); (case side1 => exact zC HR0_0 HB); (case side2 => exact HC0_0.out); (case side3 => exact zC HR1_0 HB); (case side4 => exact HC1_0.out); rintro e w' ⟨rfl, ⟨nd, rfl⟩⟩; refine ⟨_, rfl, ?_⟩) | (go_at_call 21; (with_reducible refine (laws_sameInts.calls k _ _ l0_1 _ _ l1_1 t106 _ ?side1 ?side2 ?side3 ?side4 A5.out).mono ?_); (case side1 => repeat (first | exact (cB HR0_1.out (zB_ HB)) | (with_reducible refine cA ?_ _) | (with_reducible refine cN ?_ _) | (with_reducible refine cD ?_))); (case side2 => exact HC0_1.out); (case side3 => repeat (first | exact (cB HR1_1.out (zB_ HB)) | (with_reducible refine cA ?_ _) | (with_reducible refine cN ?_ _) | (with_reducible refine cD ?_))); (case side4 => exact HC1_1.out); rintro e w' ⟨rfl, ⟨nd, rfl⟩⟩))
  go_ret
  exact ⟨by first | rfl | (simp [*] <;> rfl), zB_ HB⟩
 replace c4 := Bool.eq_false_iff.mpr c4; subst c4
 rw [if_neg (show ¬ (false = true) by decide)] at H
 obtain rfl := sI H
 go_enter Tryz.func10, Tryz.ntmps10
 go_wp2_with (first | ((with_reducible refine gD (N := 2) rfl ?_); refine zX (N := 2) (cs := #[.slice A0_0 l0_0.length c0_0, .slice A0_1 l0_1.length c0_1]) (t := 25) ?_; intro gb103 hg w11 hbox hb; have BK103 := A0_ (hbox); have GW103 := zG hg HB; have GE103 := zG hg HB; replace HB := zB HB hb; clear hb hbox hg) | ((with_reducible refine gD (N := 3) rfl ?_); refine zX (N := 3) (cs := #[.slice A1_0 l1_0.length c1_0, .slice A1_1 l1_1.length c1_1]) (t := 25) ?_; intro gb104 hg w12 hbox hb; have BK104 := A0_ (hbox); have GW104 := zG hg HB; have GE104 := zG hg HB; replace HB := zB HB hb; have NB103_104 := zL hg BK103; have NB104_103 := zM hg BK103; replace BK103 := zK BK103 hb; clear hb hbox hg; have hnb13 := NB103_104.out; have hnc13 := NB104_103.out; have hcz14_0 := zc0 BK103; have hcz14_1 := zc1 BK103; have hfz14_0 := kF BK103.out 0; have hfz14_1 := kF BK103.out 1; have hcz15_0 := zc0 BK104; have hcz15_1 := zc1 BK104; have hfz15_0 := kF BK104.out 0; have hfz15_1 := kF BK104.out 1) | ((with_reducible refine gC (f := 21) rfl ?_); refine zJ (some 9) Tryz.func21 #[.slice A0_0 l0_0.length c0_0, .slice A1_0 l1_0.length c1_0] ?_; (with_reducible refine (laws_sameInts.calls k _ _ l0_0 _ _ l1_0 false _ ?side1 ?side2 ?side3 ?side4 A3.out).mono ?_); (case side1 => exact zC HR0_0 HB); (case side2 => exact HC0_0.out); (case side3 => exact zC HR1_0 HB); (case side4 => exact HC1_0.out); rintro e w' ⟨rfl, ⟨nd, rfl⟩⟩; refine ⟨_, rfl, ?_⟩))
 go_ret
 exact ⟨by first | rfl | (simp [*] <;> rfl), zB_ HB⟩

/-! ### impl_PermValid: function 60 -/
def impl_PermValid.fine (l : List Int) (i : Nat) : Prop := ∀ j : Nat, j < i → (0 ≤ rd l (j : Int) ∧ rd l (j : Int) < l.length) ∧ ∀ k : Nat, k < j → rd l (k : Int) ≠ rd l (j : Int)
instance (l : List Int) (i : Nat) : Decidable (impl_PermValid.fine l i) := by unfold impl_PermValid.fine; infer_instance
def impl_PermValid.met (l : List Int) (i : Nat) (x : Nat) : Bool := (List.range i).any (fun j => decide (rd l (j : Int) = (x : Int)))
def impl_PermValid.cells (l : List Int) (i : Nat) : Array Value := ((List.range 12).map (fun x => Value.bool (impl_PermValid.met l i x))).toArray
def impl_PermValid.val (l : List Int) : Bool := decide ((1 ≤ l.length ∧ l.length ≤ 12) ∧ impl_PermValid.fine l l.length)
def impl_PermValid.f (l0 : List Int) : Option Bool := some (impl_PermValid.val l0)
theorem impl_PermValid.met_succ (l : List Int) (i x : Nat) : impl_PermValid.met l (i + 1) x = (impl_PermValid.met l i x || decide (rd l (i : Int) = (x : Int))) := by
  unfold impl_PermValid.met; rw [List.range_succ, List.any_append]; simp
theorem impl_PermValid.met_iff {l : List Int} {i x : Nat} : impl_PermValid.met l i x = true ↔ ∃ k : Nat, k < i ∧ rd l (k : Int) = (x : Int) := by
  unfold impl_PermValid.met
  rw [List.any_eq_true]
  constructor
  · rintro ⟨k, hk, h⟩; exact ⟨k, List.mem_range.1 hk, oD h⟩
  rintro ⟨k, hk, h⟩; exact ⟨k, List.mem_range.2 hk, dT h⟩
theorem impl_PermValid.cells_get (l : List Int) (i : Nat) (x : Nat) (h : x < 12) : (impl_PermValid.cells l i)[x]? = some (.bool (impl_PermValid.met l i x)) := by
  unfold impl_PermValid.cells; simp [h]
theorem impl_PermValid.cells_set (l : List Int) (i : Nat) (n : Int) (h0 : 0 ≤ n) (h : n < 12) (hn : rd l (i : Int) = n) : (impl_PermValid.cells l i).setIfInBounds n.toNat (.bool true) = impl_PermValid.cells l (i + 1) := by
  apply Array.ext_getElem?
  intro q
  by_cases hq : q < 12
  · rw [impl_PermValid.cells_get l (i + 1) q hq, impl_PermValid.met_succ, hn, Array.getElem?_setIfInBounds]
    by_cases e : n.toNat = q
    · rw [if_pos e, if_pos (by simp [impl_PermValid.cells]; omega), dT (by omega), Bool.or_true]
    rw [if_neg e, impl_PermValid.cells_get l i q hq, dF (by omega), Bool.or_false]
  have h1 : ∀ i, (impl_PermValid.cells l i).size = 12 := fun i => by simp [impl_PermValid.cells]
  rw [Array.getElem?_eq_none (by rw [Array.size_setIfInBounds, h1]; omega), Array.getElem?_eq_none (by rw [h1]; omega)]
theorem impl_PermValid.val_bad (l : List Int) (i : Int) (h0 : 0 ≤ i) (h1 : i < l.length) (h : ¬ (0 ≤ rd l i ∧ rd l i < l.length ∧ ∀ k : Nat, (k : Int) < i → rd l (k : Int) ≠ rd l i)) : impl_PermValid.val l = false := by
  unfold impl_PermValid.val
  refine dF (fun ⟨_, hf⟩ => h ?_)
  have := hf i.toNat (by omega)
  rw [Int.toNat_of_nonneg h0] at this
  exact ⟨this.1.1, this.1.2, fun k hk => this.2 k (by omega)⟩
set_option maxHeartbeats 8000000 in
set_option maxRecDepth 100000 in
theorem impl_PermValid.wv_long (A0 : Option Addr) (c0 : Nat) (l0 : List Int) (w : World) (hr0 : Kd.C (Kd.int .i64) w A0 l0.length l0) (hc0 : l0.length ≤ c0) (hl1 : 1 ≤ l0.length) (hl2 : l0.length ≤ 12) :
    Calls Tryz.prog 60 #[.slice A0 l0.length c0] w fun e w' => e = .returned (.bool (impl_PermValid.val l0)) ∧ Below w.heap.size w w' := by
    have HR0 := A0_ hr0; have HC0 := A0_ hc0; clear hr0 hc0
    have b0 : decide ((l0.length : Int) < 1) = false := dF (by omega)
    have b1 : decide (12 < (l0.length : Int)) = false := dF (by omega)
    have HL := A0_ (And.intro hl1 hl2)
    clear hl1 hl2
    have HN : Aside0 (∀ i, (impl_PermValid.cells l0 i).size = 12) := ⟨fun i => by simp [impl_PermValid.cells]⟩
    have HZ : Aside0 (impl_PermValid.cells l0 0 = #[.bool false, .bool false, .bool false, .bool false, .bool false, .bool false, .bool false, .bool false, .bool false, .bool false, .bool false, .bool false]) := ⟨rfl⟩
    go_enter Tryz.func60, Tryz.ntmps60
    go_wp2
    go_loopw [17] (fun v17 wr => ∃ (i : Int), v17 = .int .i64 i ∧ Aside0 (0 ≤ i ∧ i ≤ (l0.length : Int)) ∧ Aside0 (impl_PermValid.fine l0 i.toNat) ∧ (∃ m, wr = (w.alloc (.cells (impl_PermValid.cells l0 i.toNat) 103)).drewN m)) (fun i _ => l0.length - (intOf i).toNat)
    case atStart => exact ⟨0, rfl, ⟨by omega⟩, ⟨fun j hj => absurd hj (Nat.not_lt_zero j)⟩, 0, by rw [show (0 : Int).toNat = 0 from rfl, HZ.out]; rfl⟩
    case round =>
      obtain ⟨i, rfl, HI, HF, m, rfl⟩ := hrel; clear b0 b1
      have HB : Aside0 (Below w.heap.size w ((w.alloc (.cells (impl_PermValid.cells l0 i.toNat) 103)).drewN m)) := ⟨by exact bN ((Below.refl _ _).alloc (Nat.le_refl _) _) _⟩
      by_cases hlt : i < (l0.length : Int)
      · have hc : decide (i < (l0.length : Int)) = true := dT hlt
        obtain ⟨ad', e1, hx⟩ := tI HR0.out i HI.out.1 hlt
        cases e1
        replace hx := (HB.out.cell (wL w _ hx)).trans hx
        have p1 := eq_true HI.out.1; have p2 := eq_true hlt; have HT := A0_ hlt; clear hlt
        obtain ⟨n, hn⟩ : ∃ n, n = rd l0 i := ⟨_, rfl⟩
        rw [← hn] at hx
        have HNN := A0_ hn; clear hn
        by_cases c1 : n < 0
        · have d1 : decide (n < 0) = true := dT c1
          clear c1
          have HV : Aside0 (impl_PermValid.val l0 = false) := ⟨impl_PermValid.val_bad l0 i HI.out.1 HT.out (fun h => by have := HNN.out; have := oD d1; have := h.1; omega)⟩
          go_wp2
          go_ret
          exact ⟨by rw [HV.out]; rfl, HB.out⟩
        have d1 : decide (n < 0) = false := dF c1
        by_cases c2 : n ≥ (l0.length : Int)
        · have d2 : decide ((l0.length : Int) ≤ n) = true := dT c2
          clear c1 c2
          have HV : Aside0 (impl_PermValid.val l0 = false) := ⟨impl_PermValid.val_bad l0 i HI.out.1 HT.out (fun h => by have := HNN.out; have := oD d2; have := h.2.1; omega)⟩
          go_wp2
          go_ret
          exact ⟨by rw [HV.out]; rfl, HB.out⟩
        have d2 : decide ((l0.length : Int) ≤ n) = false := dF c2
        have q1 := eq_true (show 0 ≤ n by omega)
        have q2 := eq_true (show n < 12 by have := HL.out; omega)
        have HQ := A0_ (show 0 ≤ n ∧ n < 12 by have := HL.out; omega)
        clear c1 c2
        obtain ⟨b, hb⟩ : ∃ b, b = impl_PermValid.met l0 i.toNat n.toNat := ⟨_, rfl⟩
        have HBB := A0_ hb; clear hb
        have hy : ((w.alloc (.cells (impl_PermValid.cells l0 i.toNat) 103)).drewN m).cell? ⟨w.heap.size, n.toNat, none⟩ = some (.bool b) := by
          rw [HBB.out]
          have hc_ := impl_PermValid.cells_get l0 i.toNat n.toNat (by have := HQ.out; omega)
          show World.cell? (w.alloc (.cells (impl_PermValid.cells l0 i.toNat) 103)) ⟨w.heap.size, n.toNat, none⟩ = _
          simp only [World.cell?, World.alloc, Array.getElem?_push_size, Option.isSome_none]
          exact hc_
        cases b with
        | true =>
          have HV : Aside0 (impl_PermValid.val l0 = false) := ⟨impl_PermValid.val_bad l0 i HI.out.1 HT.out (fun h => by
            obtain ⟨k, hk, e⟩ := impl_PermValid.met_iff.1 HBB.out.symm
            have := HQ.out
            have := HNN.out
            exact h.2.2 k (by omega) (by omega))⟩
          go_wp2
          go_ret
          exact ⟨by rw [HV.out]; rfl, HB.out⟩
        | false =>
          have HI2 := A0_ (show (i + 1).toNat = i.toNat + 1 by have := HI.out; omega)
          have HW := A0_ (show wrap64 (i + 1) = i + 1 by have := HI.out; have := HL.out; have := HT.out; unfold wrap64; omega)
          have HF2 : Aside0 (impl_PermValid.fine l0 (i.toNat + 1)) := ⟨fun j hj => by
            by_cases e : j = i.toNat
            · subst e
              rw [Int.toNat_of_nonneg HI.out.1, ← HNN.out]
              refine ⟨⟨HQ.out.1, by have := of_decide_eq_false d2; omega⟩, fun k hk e => ?_⟩
              have := HBB.out
              rw [impl_PermValid.met_iff.2 ⟨k, hk, by rw [e]; have := HQ.out; omega⟩] at this
              cases this
            exact HF.out j (by omega)⟩
          have HS := A0_ (impl_PermValid.cells_set l0 i.toNat n HQ.out.1 HQ.out.2 (by rw [Int.toNat_of_nonneg HI.out.1, HNN.out]))
          go_wp2
          go_roundw
          case rel => exact ⟨i + 1, by rw [HW.out], ⟨by have := HI.out; have := HT.out; omega⟩, ⟨by rw [HI2.out]; exact HF2.out⟩, m, by
            rw [HI2.out, ← HS.out]
            show ((w.alloc (.cells (impl_PermValid.cells l0 i.toNat) 103)).setCell ⟨w.heap.size, n.toNat, none⟩ (.bool true)).drewN m = _
            rw [World.setCell_alloc_at _ _ _ _ _ rfl]⟩
          case measure => simp only [intOf, HW.out]; have := HI.out; have := HT.out; omega
      have hc : decide (i < (l0.length : Int)) = false := dF hlt
      have HV : Aside0 (impl_PermValid.val l0 = true) := ⟨by
        have e : i.toNat = l0.length := by have := HI.out; omega
        have hF := HF.out; rw [e] at hF
        exact dT ⟨HL.out, hF⟩⟩
      clear hlt
      go_wp2
      go_ret
      exact ⟨by rw [HV.out]; rfl, HB.out⟩
theorem impl_PermValid.calls (A0 : Option Addr) (c0 : Nat) (l0 : List Int) (r : Bool) (w : World) (hr0 : Kd.C (Kd.int .i64) w A0 l0.length l0) (hc0 : l0.length ≤ c0) (h : impl_PermValid.f l0 = some r) :
    Calls Tryz.prog 60 #[.slice A0 l0.length c0] w fun e w' => e = .returned (.bool r) ∧ Below w.heap.size w w' := by
  obtain rfl := sI h; clear h
  by_cases h1 : 1 ≤ l0.length
  · by_cases h2 : l0.length ≤ 12
    · exact impl_PermValid.wv_long A0 c0 l0 w hr0 hc0 h1 h2
    have HV : Aside0 (impl_PermValid.val l0 = false) := ⟨dF (fun k => h2 k.1.2)⟩
    have b0 : decide ((l0.length : Int) < 1) = false := dF (by omega)
    have b1 : decide (12 < (l0.length : Int)) = true := dT (by omega)
    clear h1 h2 hr0 hc0
    go_enter Tryz.func60, Tryz.ntmps60
    go_wp2
    go_ret
    exact ⟨by rw [HV.out]; rfl, (Below.refl _ _).alloc (Nat.le_refl _) _⟩
  have HV : Aside0 (impl_PermValid.val l0 = false) := ⟨dF (fun k => h1 k.1.1)⟩
  have b0 : decide ((l0.length : Int) < 1) = true := dT (by omega)
  clear h1 hr0 hc0
  go_enter Tryz.func60, Tryz.ntmps60
  go_wp2
  go_ret
  exact ⟨by rw [HV.out]; rfl, (Below.refl _ _).alloc (Nat.le_refl _) _⟩


/-! ### slices_Max_int_int: function 61 -/
def slices_Max_int_int.go (l : List Int) (m : Int) : Nat → Int
  | 0 => m
  | i + 1 => if slices_Max_int_int.go l m i < rd l (i : Int) then rd l (i : Int) else slices_Max_int_int.go l m i
/-- The greatest of the first i numbers; the first one for i = 0. -/
def slices_Max_int_int.up (l : List Int) (i : Nat) : Int := slices_Max_int_int.go l (rd l 0) i
def slices_Max_int_int.f (l0 : List Int) : Option Int := if 0 < l0.length then some (slices_Max_int_int.up l0 l0.length) else none
set_option maxHeartbeats 8000000 in
set_option maxRecDepth 100000 in
theorem slices_Max_int_int.calls (A0 : Option Addr) (c0 : Nat) (l0 : List Int) (r : Int) (w : World) (hr0 : Kd.C (Kd.int .i64) w A0 l0.length l0) (hc0 : l0.length ≤ c0) (h : slices_Max_int_int.f l0 = some r) :
    Calls Tryz.prog 61 #[.slice A0 l0.length c0] w fun e w' => e = .returned (.int .i64 r) ∧ Drawn0 w w' := by
  unfold slices_Max_int_int.f at h
  by_cases hl : 0 < l0.length
  · rw [if_pos hl] at h
    obtain rfl := sI h; clear h; have HR0 := A0_ hr0; have HC0 := A0_ hc0; clear hr0 hc0
    have b0 : decide (l0.length < 1) = false := dF (by omega)
    have b1 : decide ((l0.length : Int) < 1) = false := dF (by omega)
    obtain ⟨ad, e0, hx0⟩ := tI HR0.out 0 (by omega) (by omega)
    cases e0
    have hx1 : w.cell? ad = some (.int .i64 (rd l0 0)) := by cases ad; exact hx0
    clear hx0
    have p0 : (0 : Int) < (l0.length : Int) := by omega
    have HM := A0_ (show slices_Max_int_int.up l0 1 = rd l0 0 by show (if rd l0 0 < rd l0 ((0 : Nat) : Int) then rd l0 ((0 : Nat) : Int) else rd l0 0) = rd l0 0; split <;> rfl)
    have HL := A0_ hl
    go_enter Tryz.func61, Tryz.ntmps61
    go_wp2
    go_loopw [3, 4] (fun v3 v4 wr => ∃ (i : Int), v3 = .int .i64 (slices_Max_int_int.up l0 i.toNat) ∧ v4 = .int .i64 i ∧ Aside0 (1 ≤ i ∧ i ≤ (l0.length : Int)) ∧ Drawn0 w wr) (fun _ i _ => l0.length - (intOf i).toNat)
    case atStart => exact ⟨1, by rw [show (1 : Int).toNat = 1 from rfl, HM.out], rfl, ⟨by have := HL.out; omega⟩, by repeat (first | exact Drawn0.refl _ | apply Drawn0.step)⟩
    case round =>
      obtain ⟨i, rfl, rfl, HI, ⟨m, rfl⟩⟩ := hrel; clear hx1 p0 b0 b1
      by_cases hlt : i < (l0.length : Int)
      · have hI := HI.out
        have hc : decide (i < (l0.length : Int)) = true := dT hlt
        obtain ⟨ad', e1, hx⟩ := tI HR0.out i (by omega) hlt
        cases e1
        have p : 0 ≤ i := by omega
        have HS := A0_ (show slices_Max_int_int.up l0 (i + 1).toNat = if slices_Max_int_int.up l0 i.toNat < rd l0 i then rd l0 i else slices_Max_int_int.up l0 i.toNat by
          rw [show (i + 1).toNat = i.toNat + 1 by omega]
          show (if slices_Max_int_int.up l0 i.toNat < rd l0 ((i.toNat : Nat) : Int) then rd l0 ((i.toNat : Nat) : Int) else slices_Max_int_int.up l0 i.toNat) = _
          rw [Int.toNat_of_nonneg p])
        have HT := A0_ hlt; clear hI; have p1 := eq_true p; have p2 := eq_true hlt; clear p hlt
        have HW := A0_ (show wrap64 (i + 1) = i + 1 by have := HI.out; have := HT.out; have := HR0.out.2.1; unfold wrap64; omega)
        go_wp2
        go_roundw
        case rel => exact ⟨i + 1, by rw [HS.out], by rw [HW.out], ⟨by have := HI.out; have := HT.out; omega⟩, by repeat (first | exact Drawn0.refl _ | apply Drawn0.step)⟩
        case measure => simp only [intOf, HW.out]; have := HI.out; have := HT.out; omega
      have hc : decide (i < (l0.length : Int)) = false := dF hlt
      have HE := A0_ (show i = (l0.length : Int) by have := HI.out; omega)
      clear hlt
      go_wp2
      go_ret
      exact ⟨by rw [HE.out]; rfl, by repeat (first | exact Drawn0.refl _ | apply Drawn0.step)⟩
  rw [if_neg hl] at h; cases h


/-! ### impl_still: function 98 -/
def impl_still.l0 : Nat → List Int → Int → Int → Option (List Int)
  | 0, _, _, _ => none
  | k + 1, x3, x8, x9 => if x9 < x8 then (if 0 ≤ x9 then (if x9 < (x3.length : Int) then (impl_still.l0 k (x3.set (x9 : Int).toNat x9) x8 (wrap64 (x9 + 1))) else (none)) else (none)) else (some x3)
def impl_still.f (k : Nat) (a0 : Int) : Option (List Int) := if 0 ≤ a0 then (if (a0 : Int).toNat ≤ 35184372088832 then ((some (List.replicate (a0 : Int).toNat 0 : List Int)).bind fun y107 => (impl_still.l0 k y107 (y107.length : Int) 0)) else (none)) else (none)
set_option maxHeartbeats 8000000 in
set_option maxRecDepth 100000 in
theorem impl_still.calls (k : Nat) (a0 : Int) (r : List Int) (w : World) (h : impl_still.f k a0 = some r) :
    Calls Tryz.prog 98 #[.int .i64 a0] w fun e w' => ∃ v0_ : Value, e = .returned (v0_) ∧ Kd.R (Kd.int .i64) 3 w' w.heap.size (fun _ => True) v0_ r ∧ Below w.heap.size w w' := by
 have HB := A0_ (Below.refl w.heap.size w)
 have H : (if 0 ≤ a0 then (if (a0 : Int).toNat ≤ 35184372088832 then ((some (List.replicate (a0 : Int).toNat 0 : List Int)).bind fun y107 => (impl_still.l0 k y107 (y107.length : Int) 0)) else (none)) else (none)) = some r := h
 clear h
 by_cases c2 : 0 ≤ a0
 ·rw [if_pos c2] at H
  have c2b0 := eq_true c2; have c2b1 := dT c2; clear c2
  by_cases c3 : (a0 : Int).toNat ≤ 35184372088832
  ·rw [if_pos c3] at H
   have c3b0 := eq_true c3; have c3b1 := dT c3; clear c3
   obtain ⟨y107, hy107⟩ : ∃ y_ : List Int, y_ = (List.replicate (a0 : Int).toNat 0) := ⟨_, rfl⟩
   replace H : (impl_still.l0 k y107 (y107.length : Int) 0) = some r := zH hy107 H
   have Ny107 := A0_ hy107; clear hy107; have H' := A0_ H; clear H
   go_enter Tryz.func98, Tryz.ntmps98
   go_wp2_with (first | ((with_reducible refine gD (N := 6) rfl ?_); refine Kd.R_make (Kd.int .i64) _ 3 rfl (N := 6) rfl 23 _ _ rfl a0 rfl rfl Tryz.underlying23 (.int .i64 0) 8 info3 rfl (by decide) (by omega) 0 (ok := fun _ => True) (okp := fun _ => True) rfl (fun _ hk => hk) trivial (zd) (Nat.le_trans (Nat.mul_le_mul_right _ (zd : a0.toNat ≤ 35184372088832)) (by omega)) (Below.refl _ _) (Nat.le_refl _) ?_; intro v108 w4 ho5 hb hg_ hnew_; clear hg_ hnew_; (first | rw [← Ny107.out] at ho5 | (simp only [Int.reduceToNat] at ho5; rw [← Ny107.out] at ho5)); have HO109 := A0_ (rL ho5 (bZ (zB_ HB))); replace HB := zB HB hb; clear hb ho5; obtain ⟨Ao6, co6, eo6⟩ := rS HO109.out; subst eo6))
   go_loopg [9] k (fun kq v9 w' => ∃ (x3_1 : List Int) (x9_1 : Int), v9 = .int .i64 x9_1 ∧ Aside0 (impl_still.l0 kq x3_1 (y107.length : Int) x9_1 = some r) ∧ Aside0 (kq ≤ k) ∧ Aside0 (Kd.R (Kd.int .i64) 3 w' w.heap.size (fun _ => True) (.slice Ao6 y107.length co6) x3_1) ∧ Aside0 (Below w.heap.size w w'))
   case atStart => exact ⟨(y107), (0), zt, H', ⟨Nat.le_refl _⟩, ⟨zR_ HO109⟩, ⟨zB_ HB⟩⟩
   case round =>
    clear H'; (try clear c2); (try clear c2b0); (try clear c2b1); (try clear p2); (try clear c3); (try clear c3b0); (try clear c3b1); obtain ⟨x3_1, x9_1, rfl, HA, HK1, HO_3, HB⟩ := hrel; have hl3_1 := (rR HO_3.out).1; rw [hl3_1] at HO_3; (try simp only [hl3_1])
    cases gk with
    | zero => exact absurd HA.out (by simp [impl_still.l0])
    | succ k1 =>
     have H := HA.out; clear HA; simp only [impl_still.l0] at H
     by_cases c7 : x9_1 < (y107.length : Int)
     ·rw [if_pos c7] at H
      have c7b0 := dT c7; (try simp only [hl3_1] at c7b0); clear c7
      by_cases c8 : 0 ≤ x9_1
      ·rw [if_pos c8] at H
       have c8b0 := dT c8; clear c8
       by_cases c9 : x9_1 < (x3_1.length : Int)
       ·rw [if_pos c9] at H
        have c9b0 := dT c9; (try simp only [hl3_1] at c9b0); clear c9
        obtain ⟨y110, hy110⟩ : ∃ y_ : List Int, y_ = (x3_1.set (x9_1 : Int).toNat x9_1) := ⟨_, rfl⟩
        replace H : (impl_still.l0 k1 y110 (y107.length : Int) (wrap64 (x9_1 + 1))) = some r := zH hy110 H
        have Ny110 := A0_ hy110; clear hy110; have H' := A0_ H; clear H
        have p10 : 0 ≤ (x9_1 : Int) := zd
        have q10 : (x9_1 : Int) < ((x3_1.length : Int) : Int) := zd
        obtain ⟨go10, co10, eo10, gb10, gl10, cl10, HG10⟩ := Kd.R_form HO_3.out (by omega)
        (first | cases eo10 | (injection eo10 with ea_ en_ ec_; (first | subst ea_ | (injection ea_ with ea_; subst ea_)); subst ec_; clear en_))
        have GB10 := A0_ gb10; have GG10 := A0_ HG10; clear gb10 gl10 HG10
        obtain ⟨hx10_0, hf10_0⟩ := Kd.R_celln 0 HO_3.out (x9_1 : Int) p10 q10
        replace p10 := eq_true p10; replace q10 := eq_true q10
        have HP11 := Kd.R_putg HO_3.out (x9_1 : Int) x9_1
        go_wp2_with (first | ((with_reducible refine gS (t := 3) (p := 15) rfl ?_); refine store_event (t := 3) (p := 15) (v := ?vo_w12) (w1 := (wr.setCell ⟨go10, (x9_1 : Int).toNat, none⟩ (.int .i64 x9_1))) ?hg ?ho ?hn ?hr ?_; (case ho => rfl); (case hg => rfl); (case hn => rfl); (case hr => first | (go_simp; done) | (go_simp; rfl)); intro w12 hw; have hg : wr.grownBy w12 (some go10) := (by rw [hw]; exact HP11.2); have hp_ : Kd.R (Kd.int .i64) 3 w12 w.heap.size (fun _ => True) (.slice (some ⟨go10, 0, none⟩) x3_1.length co6) y110 := (by rw [hw, Ny110.out]; exact HP11.1); clear HP11; replace HO_3 := A0_ (hp_); replace HB := A0_ ((by rw [hw]; exact bS (HB.out) GB10.out : Below w.heap.size w w12)); clear hg hw hp_))
        (try simp only [← hl3_1])
        go_roundg k1
        case measure => have := HK1.out; omega
        case rel => exact ⟨(y110), (wrap64 (x9_1 + 1)), zt, H', ⟨by have := HK1.out; omega⟩, ⟨by (try simp only [hl3_1]); (with_reducible repeat (first | apply rA | apply rN | apply rD)); exact HO_3.out⟩, ⟨zB_ HB⟩⟩
       rw [if_neg c9] at H
       exact absurd H (by simp)
      rw [if_neg c8] at H
      exact absurd H (by simp)
     rw [if_neg c7] at H; have c7b0 := dF c7; (try simp only [hl3_1] at c7b0); clear c7; obtain rfl := sI H
     go_wp2
     go_ret
     exact ⟨_, by first | rfl | (simp [*] <;> rfl), zR_ HO_3, zB_ HB⟩
  rw [if_neg c3] at H
  exact absurd H (by simp)
 rw [if_neg c2] at H
 exact absurd H (by simp)

end Go.Proofs.YtikkokflcgcnbaaGreatDoor.PFnExecuteForm
