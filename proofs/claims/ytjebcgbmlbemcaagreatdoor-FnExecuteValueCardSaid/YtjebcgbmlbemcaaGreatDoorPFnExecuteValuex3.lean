-- Made by a program of this session (wip/tools) out of the loaded program; not trusted: Lean checks it.
import Derived.Test.YtjebcgbmlbemcaaGreatDoorPFnExecuteValuex0
import Derived.Test.YtjebcgbmlbemcaaGreatDoorPFnExecuteValuex1
import Derived.Test.YtjebcgbmlbemcaaGreatDoorPFnExecuteValuex2
-- packed
namespace Go.Proofs.YtjebcgbmlbemcaaGreatDoor.PFnExecuteValue
open Go.RowKit Go.Proofs.YtjebcgbmlbemcaaGreatDoorW.PrintWords Go.Proofs.YtjebcgbmlbemcaaGreatDoorW.PrintLast Go.Proofs.YtjebcgbmlbemcaaGreatDoorW.PrintMore
attribute [local go_sem] max2_int min2_int max_two min_two max_three min_three max_four min_four   -- for this text's walks alone
set_option linter.unusedVariables false
set_option linter.unusedSimpArgs false

/-! ### impl_ribbon: function 40 -/
mutual
def impl_ribbon.l0 : Nat → List Int → Int → List Int → List Int → Int → Int → List Int → List Int → List Bool → Option (List Int)
  | 0, _, _, _, _, _, _, _, _, _ => none
  | k + 1, x1, x5, x7, x30, x31, x32, x158000, x158001, x162000 => if x32 < x31 then (if 0 ≤ x32 then (if x32 < (x30.length : Int) then ((impl_edgesOf.f k x158000 x158001).bind fun t166 => (if 0 ≤ (rd x30 x32) then (if (rd x30 x32) < (t166.length : Int) then (if 0 ≤ (rd t166 (rd x30 x32)) then (if (rd t166 (rd x30 x32)) < (x158001.length : Int) then (if (rd t166 (rd x30 x32)) < (x162000.length : Int) then (if 0 ≤ (rd x158001 (rd t166 (rd x30 x32))) then (if (rd x158001 (rd t166 (rd x30 x32))) < (x162000.length : Int) then (if (rd t166 (rd x30 x32)) < (x7.length : Int) then (if (rd x158001 (rd t166 (rd x30 x32))) < (x7.length : Int) then (impl_ribbon.l0 k x1 x5 ((x7.set ((rd t166 (rd x30 x32)) : Int).toNat (rd x158001 (rd t166 (rd x30 x32)))).set ((rd x158001 (rd t166 (rd x30 x32))) : Int).toNat (rd t166 (rd x30 x32))) x30 x31 (wrap64 (x32 + 1)) x158000 x158001 ((x162000.set ((rd t166 (rd x30 x32)) : Int).toNat true).set ((rd x158001 (rd t166 (rd x30 x32))) : Int).toNat true)) else (none)) else (none)) else (none)) else (none)) else (none)) else (none)) else (none)) else (none)) else (none))) else (none)) else (none)) else ((impl_orbits.f k (([x158000, x7] : List (List Int)))).bind fun t178 => (impl_ribbon.l1 k x1 x5 x7 0 t178 (t178.length : Int) 0 x158000 x158001 x162000))
def impl_ribbon.l1 : Nat → List Int → Int → List Int → Int → List Int → Int → Int → List Int → List Int → List Bool → Option (List Int)
  | 0, _, _, _, _, _, _, _, _, _, _ => none
  | k + 1, x1, x5, x7, x12, x65, x66, x67, x158000, x158001, x162000 => if x67 < x66 then (if 0 ≤ x67 then (if x67 < (x65.length : Int) then (if x67 = (rd x65 x67) then (impl_ribbon.l1 k x1 x5 x7 (wrap64 (x12 + 1)) x65 x66 (wrap64 (x67 + 1)) x158000 x158001 x162000) else (impl_ribbon.l1 k x1 x5 x7 x12 x65 x66 (wrap64 (x67 + 1)) x158000 x158001 x162000)) else (none)) else (none)) else ((impl_cyclesOf.f k x158000).bind fun t182 => (impl_ribbon.l2 k x1 x5 x7 x12 0 t182 (t182.length : Int) 0 x158000 x158001 x162000))
def impl_ribbon.l2 : Nat → List Int → Int → List Int → Int → Int → List (List Int) → Int → Int → List Int → List Int → List Bool → Option (List Int)
  | 0, _, _, _, _, _, _, _, _, _, _, _ => none
  | k + 1, x1, x5, x7, x12, x15, x80, x81, x82, x158000, x158001, x162000 => if x82 < x81 then (if 0 ≤ x82 then (if x82 < (x80.length : Int) then ((slices_ContainsFunc_int_int.f (rd_L1 x80 x82) x162000).bind fun t186 => (if t186 = true then (impl_ribbon.l2 k x1 x5 x7 x12 x15 x80 x81 (wrap64 (x82 + 1)) x158000 x158001 x162000) else (impl_ribbon.l2 k x1 x5 x7 x12 (wrap64 (x15 + 1)) x80 x81 (wrap64 (x82 + 1)) x158000 x158001 x162000))) else (none)) else (none)) else (if 0 ≤ x5 then (if (x5 : Int).toNat ≤ 281474976710656 then (impl_ribbon.l3 k x1 x7 x12 x15 (List.replicate (x5 : Int).toNat false) x5 0 x158000 x158001 x162000) else (none)) else (none))
def impl_ribbon.l3 : Nat → List Int → List Int → Int → Int → List Bool → Int → Int → List Int → List Int → List Bool → Option (List Int)
  | 0, _, _, _, _, _, _, _, _, _, _ => none
  | k + 1, x1, x7, x12, x15, x18, x95, x96, x158000, x158001, x162000 => if x96 < x95 then (if 0 ≤ x96 then (if x96 < (x162000.length : Int) then (if rdOf false x162000 x96 = true then (if x96 < (x18.length : Int) then (impl_ribbon.j4 k x1 x7 x12 x15 x18 x96 x95 x96 (rdOf false x18 x96) x158000 x158001 x162000) else (none)) else (impl_ribbon.j4 k x1 x7 x12 x15 x18 x96 x95 x96 true x158000 x158001 x162000)) else (none)) else (none)) else ((impl_cyclesOf.f k x158000).bind fun t190 => (some (([x12, x15, wrap64 ((t190.length : Int) - x12), wrap64 ((x1.length : Int) - (wrap64 ((t190.length : Int) - x12))), wrap64 (Int.tdiv (wrap64 ((wrap64 ((wrap64 ((wrap64 (2 * x12)) - (t190.length : Int))) + (x1.length : Int))) - x15)) 2)] : List Int))))
def impl_ribbon.j4 : Nat → List Int → List Int → Int → Int → List Bool → Int → Int → Int → Bool → List Int → List Int → List Bool → Option (List Int)
  | 0, _, _, _, _, _, _, _, _, _, _, _, _ => none
  | k + 1, x1, x7, x12, x15, x18, x19, x95, x96, x109, x158000, x158001, x162000 => if x109 = true then (impl_ribbon.l3 k x1 x7 x12 x15 x18 x95 (wrap64 (x96 + 1)) x158000 x158001 x162000) else (impl_ribbon.l4 k x1 x7 x12 (wrap64 (x15 + 1)) x18 x19 x95 x96 x158000 x158001 x162000)
def impl_ribbon.l4 : Nat → List Int → List Int → Int → Int → List Bool → Int → Int → Int → List Int → List Int → List Bool → Option (List Int)
  | 0, _, _, _, _, _, _, _, _, _, _, _ => none
  | k + 1, x1, x7, x12, x15, x18, x20, x95, x96, x158000, x158001, x162000 => if 0 ≤ x20 then (if x20 < (x18.length : Int) then (if rdOf false x18 x20 = true then (impl_ribbon.l3 k x1 x7 x12 x15 x18 x95 (wrap64 (x96 + 1)) x158000 x158001 x162000) else (if x20 < (x7.length : Int) then (if 0 ≤ (rd x7 x20) then (if (rd x7 x20) < (x158000.length : Int) then (impl_ribbon.l5 k x1 x7 x12 x15 (x18.set (x20 : Int).toNat true) (rd x158000 (rd x7 x20)) x95 x96 x158000 x158001 x162000) else (none)) else (none)) else (none))) else (none)) else (none)
def impl_ribbon.l5 : Nat → List Int → List Int → Int → Int → List Bool → Int → Int → Int → List Int → List Int → List Bool → Option (List Int)
  | 0, _, _, _, _, _, _, _, _, _, _, _ => none
  | k + 1, x1, x7, x12, x15, x18, x20, x95, x96, x158000, x158001, x162000 => if 0 ≤ x20 then (if x20 < (x162000.length : Int) then (if rdOf false x162000 x20 = true then (impl_ribbon.l4 k x1 x7 x12 x15 x18 x20 x95 x96 x158000 x158001 x162000) else (if x20 < (x158000.length : Int) then (impl_ribbon.l5 k x1 x7 x12 x15 x18 (rd x158000 x20) x95 x96 x158000 x158001 x162000) else (none))) else (none)) else (none)
end
def impl_ribbon.f (k : Nat) (l0_0 : List Int) (l0_1 : List Int) (l1 : List Int) : Option (List Int) := if 0 ≤ (l0_0.length : Int) then (if ((l0_0.length : Int) : Int).toNat ≤ 281474976710656 then ((impl_still.f k (l0_0.length : Int)).bind fun t162 => (impl_ribbon.l0 k l1 (l0_0.length : Int) t162 l1 (l1.length : Int) 0 l0_0 l0_1 (List.replicate ((l0_0.length : Int) : Int).toNat false))) else (none)) else (none)
def impl_ribbon.T9 : Bool × List (List Nat × List Nat) := (true, [([], []), ([], []), ([], []), ([], []), ([0, 1, 0, 1], [0, 1]), ([4, 0, 1], [4]), ([2, 3, 0, 1, 2, 3, 4, 5], [2, 3]), ([6, 5, 0, 1, 2, 3, 4, 5], [6])])
def impl_ribbon.B9 : List Nat := [0, 0, 0, 0, 3, 19, 63, 127]
theorem impl_ribbon.tab9 : rtab .any (opsOf Tryz.f40 9) = impl_ribbon.T9 := by kernel_rfl
theorem impl_ribbon.bits9 : waitsOk impl_ribbon.T9.2 impl_ribbon.B9 = true := by kernel_rfl
def impl_ribbon.T35 : Bool × List (List Nat × List Nat) := (true, [([], []), ([0], [0]), ([], []), ([], []), ([2, 3], [2, 3]), ([4], [4]), ([1, 5], [1, 5]), ([6], [6]), ([7, 0, 1, 2, 3, 4, 5, 6, 7], [3, 7])])
def impl_ribbon.B35 : List Nat := [0, 1, 0, 0, 12, 28, 63, 127, 255]
theorem impl_ribbon.tab35 : rtab .any (opsOf Tryz.f40 35) = impl_ribbon.T35 := by kernel_rfl
theorem impl_ribbon.bits35 : waitsOk impl_ribbon.T35.2 impl_ribbon.B35 = true := by kernel_rfl
set_option maxHeartbeats 8000000 in
set_option maxRecDepth 100000 in
theorem impl_ribbon.calls (k : Nat) (P0_0_ : Nat → Prop) (A0_0 : Option Addr) (c0_0 : Nat) (l0_0 : List Int) (A0_1 : Option Addr) (c0_1 : Nat) (l0_1 : List Int) (A1 : Option Addr) (c1 : Nat) (l1 : List Int) (r : List Int) (w : World) (hs0_0 : Kd.V (Kd.int .i64) 3 w w.heap.size (fun k_ => P0_0_ k_) (.slice A0_0 l0_0.length c0_0) l0_0) (hr0_1 : Kd.C (Kd.int .i64) w A0_1 l0_1.length l0_1) (hc0_1 : l0_1.length ≤ c0_1) (hr1 : Kd.C (Kd.int .i64) w A1 l1.length l1) (hc1 : l1.length ≤ c1) (h : impl_ribbon.f k l0_0 l0_1 l1 = some r) :
    Calls Tryz.prog 40 #[.agg #[.slice A0_0 l0_0.length c0_0, .slice A0_1 l0_1.length c0_1], .slice A1 l1.length c1] w fun e w' => ∃ v0_ : Value, e = .returned (v0_) ∧ Kd.R (Kd.int .i64) 3 w' w.heap.size (fun k_ => (w.heap.size ≤ k_)) v0_ r ∧ Below w.heap.size w w' := by
 have hu25 := Tryz.underlying25
 have HO0_0 := A0_ (show Kd.V (Kd.int .i64) 3 w w.heap.size (fun k_ => (P0_0_ k_ ∨ w.heap.size ≤ k_)) (.slice A0_0 l0_0.length c0_0) l0_0 from Kd.V_mono hs0_0 (fun k_ hk => .inl hk))
 have HR0_1 := A0_ hr0_1; have HC0_1 := A0_ hc0_1; clear hr0_1 hc0_1; have HR1 := A0_ hr1; have HC1 := A0_ hc1; clear hr1 hc1
 have HB := A0_ (Below.refl w.heap.size w)
 have H : (if 0 ≤ (l0_0.length : Int) then (if ((l0_0.length : Int) : Int).toNat ≤ 281474976710656 then ((impl_still.f k (l0_0.length : Int)).bind fun t162 => (impl_ribbon.l0 k l1 (l0_0.length : Int) t162 l1 (l1.length : Int) 0 l0_0 l0_1 (List.replicate ((l0_0.length : Int) : Int).toNat false))) else (none)) else (none)) = some r := h
 clear h
 by_cases c3 : 0 ≤ (l0_0.length : Int)
 ·rw [if_pos c3] at H
  have c3b0 := eq_true c3; have c3b1 := dT c3; clear c3
  by_cases c4 : ((l0_0.length : Int) : Int).toNat ≤ 281474976710656
  ·rw [if_pos c4] at H
   have c4b0 := eq_true c4; have c4b1 := dT c4; clear c4
   obtain ⟨y158, hy158⟩ : ∃ y_ : List Bool, y_ = (List.replicate ((l0_0.length : Int) : Int).toNat false) := ⟨_, rfl⟩
   replace H : ((impl_still.f k (l0_0.length : Int)).bind fun t162 => (impl_ribbon.l0 k l1 (l0_0.length : Int) t162 l1 (l1.length : Int) 0 l0_0 l0_1 y158)) = some r := zH hy158 H
   have Ny158 := A0_ hy158; clear hy158; obtain ⟨t162, A5, H⟩ := zbind H; have H' := A0_ H; clear H
   go_enter Tryz.func40, Tryz.ntmps40
   go_wp2_with (first | ((with_reducible refine gD (N := 2) rfl ?_); refine zX (N := 2) (cs := #[.slice A0_0 l0_0.length c0_0, .slice A0_1 l0_1.length c0_1]) (t := 25) ?_; intro gb157 hg w6 hbox hb; replace HO0_0 := A0_ (Kd.V_below (Kd.V_elderB (by (with_reducible repeat (first | apply Kd.V_alloc | apply Kd.V_drewN | apply Kd.V_drew)); exact HO0_0.out) gb157 (Nat.le_of_eq hg.symm)) hb); have BK157 := A0_ (hbox); have GW157 := zG hg HB; have GE157 := zG hg HB; replace HB := zB HB hb; clear hb hbox hg; have hcz7_0 := zc0 BK157; have hcz7_1 := zc1 BK157; have hfz7_0 := kF BK157.out 0; have hfz7_1 := kF BK157.out 1) | ((with_reducible refine gD (N := 27) rfl ?_); refine Kd.R_make Kd.bool _ 4 rfl (N := 27) rfl 97 _ _ rfl (l0_0.length : Int) rfl rfl Tryz.underlying97 (.bool false) 1 info4 rfl (by decide) (by omega) false (ok := fun _ => True) (okp := fun _ => True) rfl (fun _ hk => hk) trivial (zd) (Nat.le_trans (Nat.mul_le_mul_right _ (zd : (l0_0.length : Int).toNat ≤ 281474976710656)) (by omega)) (Below.refl _ _) (Nat.le_refl _) ?_; intro v159 w8 ho9 hb hg_ hnew_; clear hg_ hnew_; (first | rw [← Ny158.out] at ho9 | (simp only [Int.reduceToNat] at ho9; rw [← Ny158.out] at ho9)); replace HO0_0 := A0_ (Kd.V_elder' (by (with_reducible repeat (first | apply Kd.V_alloc | apply Kd.V_drewN | apply Kd.V_drew)); exact HO0_0.out) (Kd.R_base ho9) hb); have HO160 := A0_ (rL (Kd.R_newM (M := fun k_ => (w.heap.size ≤ k_)) ho9 (bZ (zB_ HB)) (fun k_ h_ => h_)) (bZ (zB_ HB))); replace BK157 := zK BK157 hb; replace HB := zB HB hb; clear hb ho9) | ((with_reducible refine gD (N := 6) rfl ?_); refine zX (N := 6) (cs := #[.slice none 0 0]) (t := 97) ?_; intro gb161 hg w10 hbox hb; replace HO0_0 := A0_ (Kd.V_below (Kd.V_elderB (by (with_reducible repeat (first | apply Kd.V_alloc | apply Kd.V_drewN | apply Kd.V_drew)); exact HO0_0.out) gb161 (Nat.le_of_eq hg.symm)) hb); replace HO160 := zR HO160 hb; have BK161 := A0_ (hbox); have GW161 := zG hg HB; have GE161 := zG hg HB; replace HB := zB HB hb; have NB157_161 := zL hg BK157; have NB161_157 := zM hg BK157; replace BK157 := zK BK157 hb; clear hb hbox hg; obtain ⟨Ao11, co11, eo11⟩ := rS HO160.out; subst eo11; have hnb12 := NB161_157.out; have hnc12 := NB157_161.out; have hcz13_0 : w10.cell? ⟨gb161, 0, none⟩ = some (.slice none 0 0) := (kC BK161.out 0).trans rfl; have hfz13_0 := kF BK161.out 0) | ((with_reducible refine gC (f := 83) rfl ?_); refine zJ (some 29) Tryz.func83 #[.int .i64 (l0_0.length : Int)] ?_; (with_reducible refine (impl_still.calls k (l0_0.length : Int) t162 _ A5.out).mono ?_); rintro e w14 ⟨v163, rfl, ho0, hb⟩; refine ⟨_, rfl, ?_⟩; replace HO0_0 := A0_ (Kd.V_elder' (by (with_reducible repeat (first | apply Kd.V_alloc | apply Kd.V_drewN | apply Kd.V_drew)); exact (Kd.V_mono (Kd.V_far (p := ⟨gb161, 0, none⟩) (Kd.V_mono HO0_0.out (fun k_ hk => (⟨hk, hk.2⟩ : _ ∧ k_ ≠ gb161))) (fun _ hk => hk.2) (.slice Ao11 y158.length co11)) (fun _ h_ => h_.1))) (Kd.R_base ho0) hb); replace HO160 := A0_ (rB (by (with_reducible repeat (first | apply rA | apply rN | apply rD)); exact (rM (rF (p := ⟨gb161, 0, none⟩) (rY HO160.out BK161.out (by decide)) (fun _ hk => hk.2) (.slice Ao11 y158.length co11)) (fun _ h_ => h_.1))) hb); have HO164 := A0_ (rL (Kd.R_newM (M := fun k_ => (w.heap.size ≤ k_)) ho0 (bZ (zB_ HB)) (fun k_ h_ => h_)) (bZ (zB_ HB))); replace BK157 := A0_ (kB (g := gb157) (o := .cells #[.slice A0_0 l0_0.length c0_0, .slice A0_1 l0_1.length c0_1] 25 (0, 0)) (by (with_reducible repeat (first | refine kN ?_ _ | refine kD ?_ | refine kA ?_ _)); refine blk_far ?_ NB157_161.out _; (with_reducible repeat (first | refine kN ?_ _ | refine kD ?_ | refine kA ?_ _)); exact BK157.out) hb); replace BK161 := A0_ (kB (g := gb161) (o := .cells #[.slice Ao11 y158.length co11] 97 (0, 0)) (by (with_reducible repeat (first | refine kN ?_ _ | refine kD ?_ | refine kA ?_ _)); refine blk_put (cs := #[.slice none 0 0]) ?_ 0 _ rfl; (with_reducible repeat (first | refine kN ?_ _ | refine kD ?_ | refine kA ?_ _)); exact BK161.out) hb); replace HB := zB HB hb; (try clear hb); (try clear ho0)))
   go_loopg [32] k (fun kq v32 w' => ∃ (x7_1 : List Int) (x32_1 : Int) (x162000_1 : List Bool) (u162000 : Value), v32 = .int .i64 x32_1 ∧ Aside0 (impl_ribbon.l0 kq l1 (l0_0.length : Int) x7_1 l1 (l1.length : Int) x32_1 l0_0 l0_1 x162000_1 = some r) ∧ Aside0 (kq ≤ k) ∧ Aside0 (Kd.R (Kd.int .i64) 3 w' w.heap.size (fun k_ => (w.heap.size ≤ k_)) v163 x7_1) ∧ Aside0 (Kd.V (Kd.int .i64) 3 w' w.heap.size (fun k_ => (P0_0_ k_ ∨ w.heap.size ≤ k_) ∧ some k_ ≠ (v163 : Value).ownBlock ∧ some k_ ≠ (u162000 : Value).ownBlock ∧ k_ ≠ gb157 ∧ k_ ≠ gb161) (.slice A0_0 l0_0.length c0_0) l0_0) ∧ Aside0 (Kd.R Kd.bool 4 w' w.heap.size (fun k_ => (w.heap.size ≤ k_)) u162000 x162000_1) ∧ Aside0 (w'.heap[gb157]? = some (.cells #[(.slice A0_0 l0_0.length c0_0), (.slice A0_1 l0_1.length c0_1)] 25 (0, 0))) ∧ Aside0 (w'.heap[gb161]? = some (.cells #[u162000] 97 (0, 0))) ∧ Aside0 (Below w.heap.size w w'))
   case atStart => exact ⟨(t162), (0), (y158), (.slice Ao11 y158.length co11), zt, H', ⟨Nat.le_refl _⟩, ⟨zmR HO164 (fun _ hk => hk.1)⟩, ⟨by (with_reducible repeat (first | apply Kd.V_alloc | apply Kd.V_drewN | apply Kd.V_drew)); exact Kd.V_mono HO0_0.out (fun _ hk => ⟨hk.1.1.1.1, ⟨hk.2, ⟨hk.1.1.2, ⟨hk.1.1.1.2, hk.1.2⟩⟩⟩⟩)⟩, ⟨zmR HO160 (fun _ hk => hk.1)⟩, ⟨zK_ BK157⟩, ⟨zK_ BK161⟩, ⟨zB_ HB⟩⟩
   case round =>
    clear H'; (try clear c1); (try clear p2); (try clear c3); (try clear c3b0); (try clear c3b1); (try clear c4); (try clear c4b0); (try clear c4b1); (try clear c8); (try clear c12); (try clear hcz13_0); (try clear hcz7_0); (try clear hcz7_1); (try clear hfz13_0); (try clear hfz7_0); (try clear hfz7_1); obtain ⟨x7_1, x32_1, x162000_1, u162000, rfl, HA, HK1, HO_7, HO_158000, HO_162000, BK157, BK161, HB⟩ := hrel
    cases gk with
    | zero => exact absurd HA.out (by simp [impl_ribbon.l0])
    | succ k1 =>
     have H := HA.out; clear HA; simp only [impl_ribbon.l0] at H
     by_cases c15 : x32_1 < (l1.length : Int)
     ·rw [if_pos c15] at H
      have c15b0 := dT c15; clear c15
      by_cases c16 : 0 ≤ x32_1
      ·rw [if_pos c16] at H
       have c16b0 := dT c16; clear c16
       by_cases c17 : x32_1 < (l1.length : Int)
       ·rw [if_pos c17] at H
        have c17b0 := dT c17; clear c17; obtain ⟨t166, A18, H⟩ := zbind H
        by_cases c19 : 0 ≤ (rd l1 x32_1)
        ·rw [if_pos c19] at H
         have c19b0 := dT c19; clear c19
         by_cases c20 : (rd l1 x32_1) < (t166.length : Int)
         ·rw [if_pos c20] at H
          have c20b0 := dT c20; clear c20
          by_cases c21 : 0 ≤ (rd t166 (rd l1 x32_1))
          ·rw [if_pos c21] at H
           have c21b0 := dT c21; clear c21
           by_cases c22 : (rd t166 (rd l1 x32_1)) < (l0_1.length : Int)
           ·rw [if_pos c22] at H
            have c22b0 := dT c22; clear c22
            by_cases c23 : (rd t166 (rd l1 x32_1)) < (x162000_1.length : Int)
            ·rw [if_pos c23] at H
             have c23b0 := dT c23; clear c23
             obtain ⟨y171, hy171⟩ : ∃ y_ : List Bool, y_ = (x162000_1.set ((rd t166 (rd l1 x32_1)) : Int).toNat true) := ⟨_, rfl⟩
             replace H : (if 0 ≤ (rd l0_1 (rd t166 (rd l1 x32_1))) then (if (rd l0_1 (rd t166 (rd l1 x32_1))) < (x162000_1.length : Int) then (if (rd t166 (rd l1 x32_1)) < (x7_1.length : Int) then (if (rd l0_1 (rd t166 (rd l1 x32_1))) < (x7_1.length : Int) then (impl_ribbon.l0 k1 l1 (l0_0.length : Int) ((x7_1.set ((rd t166 (rd l1 x32_1)) : Int).toNat (rd l0_1 (rd t166 (rd l1 x32_1)))).set ((rd l0_1 (rd t166 (rd l1 x32_1))) : Int).toNat (rd t166 (rd l1 x32_1))) l1 (l1.length : Int) (wrap64 (x32_1 + 1)) l0_0 l0_1 (y171.set ((rd l0_1 (rd t166 (rd l1 x32_1))) : Int).toNat true)) else (none)) else (none)) else (none)) else (none)) = some r := zH hy171 H
             have Ny171 := A0_ hy171; clear hy171
             by_cases c25 : 0 ≤ (rd l0_1 (rd t166 (rd l1 x32_1)))
             ·rw [if_pos c25] at H
              have c25b0 := dT c25; clear c25
              by_cases c26 : (rd l0_1 (rd t166 (rd l1 x32_1))) < (x162000_1.length : Int)
              ·rw [if_pos c26] at H
               have c26b0 := dT c26; clear c26
               obtain ⟨y172, hy172⟩ : ∃ y_ : List Bool, y_ = (y171.set ((rd l0_1 (rd t166 (rd l1 x32_1))) : Int).toNat true) := ⟨_, rfl⟩
               replace H : (if (rd t166 (rd l1 x32_1)) < (x7_1.length : Int) then (if (rd l0_1 (rd t166 (rd l1 x32_1))) < (x7_1.length : Int) then (impl_ribbon.l0 k1 l1 (l0_0.length : Int) ((x7_1.set ((rd t166 (rd l1 x32_1)) : Int).toNat (rd l0_1 (rd t166 (rd l1 x32_1)))).set ((rd l0_1 (rd t166 (rd l1 x32_1))) : Int).toNat (rd t166 (rd l1 x32_1))) l1 (l1.length : Int) (wrap64 (x32_1 + 1)) l0_0 l0_1 y172) else (none)) else (none)) = some r := zH hy172 H
               have Ny172 := A0_ hy172; clear hy172
               by_cases c28 : (rd t166 (rd l1 x32_1)) < (x7_1.length : Int)
               ·rw [if_pos c28] at H
                have c28b0 := dT c28; clear c28
                obtain ⟨y173, hy173⟩ : ∃ y_ : List Int, y_ = (x7_1.set ((rd t166 (rd l1 x32_1)) : Int).toNat (rd l0_1 (rd t166 (rd l1 x32_1)))) := ⟨_, rfl⟩
                replace H : (if (rd l0_1 (rd t166 (rd l1 x32_1))) < (x7_1.length : Int) then (impl_ribbon.l0 k1 l1 (l0_0.length : Int) (y173.set ((rd l0_1 (rd t166 (rd l1 x32_1))) : Int).toNat (rd t166 (rd l1 x32_1))) l1 (l1.length : Int) (wrap64 (x32_1 + 1)) l0_0 l0_1 y172) else (none)) = some r := zH hy173 H
                have Ny173 := A0_ hy173; clear hy173
                by_cases c30 : (rd l0_1 (rd t166 (rd l1 x32_1))) < (x7_1.length : Int)
                ·rw [if_pos c30] at H
                 have c30b0 := dT c30; clear c30
                 obtain ⟨y174, hy174⟩ : ∃ y_ : List Int, y_ = (y173.set ((rd l0_1 (rd t166 (rd l1 x32_1))) : Int).toNat (rd t166 (rd l1 x32_1))) := ⟨_, rfl⟩
                 replace H : (impl_ribbon.l0 k1 l1 (l0_0.length : Int) y174 l1 (l1.length : Int) (wrap64 (x32_1 + 1)) l0_0 l0_1 y172) = some r := zH hy174 H
                 have Ny174 := A0_ hy174; clear hy174; have H' := A0_ H; clear H
                 have p165 : 0 ≤ (x32_1 : Int) := zd
                 have q165 : x32_1 < (l1.length : Int) := zd
                 obtain ⟨ad165, e165, hx165_0⟩ := tI HR1.out x32_1 p165 q165
                 cases e165
                 try replace hx165_0 := (HB.out.cell (wL w _ hx165_0)).trans hx165_0
                 replace p165 := eq_true p165; replace q165 := eq_true q165; have hnb32 := NB157_161.out; have hnc32 := NB161_157.out; have hcz33_0 := zc0 BK157; have hcz33_1 := zc1 BK157; have hfz33_0 := kF BK157.out 0; have hfz33_1 := kF BK157.out 1
                 try go_wp2_with (first | ((with_reducible refine gC (f := 48) rfl ?_); refine zJ (some 37) Tryz.func48 #[.agg #[.slice A0_0 l0_0.length c0_0, .slice A0_1 l0_1.length c0_1]] ?_; (with_reducible refine (impl_edgesOf.calls k1 _ _ l0_0 _ _ l0_1 t166 _ ?side1 ?side2 ?side3 ?side4 A18.out).mono ?_); (case side1 => repeat (first | exact (Kd.V_reads' HO_158000.out).2.2 | (with_reducible refine cA ?_ _) | (with_reducible refine cN ?_ _) | (with_reducible refine cD ?_))); (case side2 => exact (Kd.V_reads' HO_158000.out).2.1); (case side3 => exact zC HR0_1 HB); (case side4 => exact HC0_1.out); rintro e w34 ⟨v167, rfl, ho0, hb⟩; refine ⟨_, rfl, ?_⟩; replace HO_158000 := A0_ (Kd.V_elder' (by (with_reducible repeat (first | apply Kd.V_alloc | apply Kd.V_drewN | apply Kd.V_drew)); exact HO_158000.out) (Kd.R_base ho0) hb); replace HO_162000 := zR HO_162000 hb; have HO168 := A0_ (rL (Kd.R_new' (Kd.R_newM (M := fun k_ => (w.heap.size ≤ k_)) ho0 (bZ (zB_ HB)) (fun k_ h_ => h_)) (rX (zR_ HO_7))) (bZ (zB_ HB))); replace HO_7 := A0_ (Kd.R_elder' (zR_ HO_7) (Kd.R_base ho0) hb); replace BK157 := zK BK157 hb; replace BK161 := zK BK161 hb; replace HB := zB HB hb; (try clear hb); (try clear ho0); obtain ⟨Ao35, co35, eo35⟩ := rS HO168.out; subst eo35; have p169 : 0 ≤ ((rd l1 x32_1) : Int) := zd; have q169 : (rd l1 x32_1) < (t166.length : Int) := zd; obtain ⟨ad169, e169, hx169_0⟩ := tI (rR HO168.out).2.2 (rd l1 x32_1) p169 q169; cases e169; replace p169 := eq_true p169; replace q169 := eq_true q169; have hcz36_0 := zc0 BK157; have hcz36_1 := zc1 BK157; have hfz36_0 := kF BK157.out 0; have hfz36_1 := kF BK157.out 1; have p170 : 0 ≤ ((rd t166 (rd l1 x32_1)) : Int) := zd; have q170 : (rd t166 (rd l1 x32_1)) < (l0_1.length : Int) := zd; obtain ⟨ad170, e170, hx170_0⟩ := tI HR0_1.out (rd t166 (rd l1 x32_1)) p170 q170; cases e170; try replace hx170_0 := (HB.out.cell (wL w _ hx170_0)).trans hx170_0; replace p170 := eq_true p170; replace q170 := eq_true q170))
                 replace HO_7 := A0_ (rD HO_7.out)
                 replace HO_158000 := A0_ (Kd.V_drew HO_158000.out)
                 replace HO_162000 := A0_ (rD HO_162000.out)
                 replace HO168 := A0_ (rD HO168.out)
                 replace BK157 := A0_ (kD BK157.out)
                 replace BK161 := A0_ (kD BK161.out)
                 replace HB := A0_ (bD HB.out)
                 have p24 : 0 ≤ ((rd t166 (rd l1 x32_1)) : Int) := zd
                 have q24 : ((rd t166 (rd l1 x32_1)) : Int) < ((x162000_1.length : Int) : Int) := zd
                 obtain ⟨go24, co24, eo24, gb24, gl24, cl24, HG24⟩ := Kd.R_form HO_162000.out (by omega)
                 (first | cases eo24 | (injection eo24 with ea_ en_ ec_; (first | subst ea_ | (injection ea_ with ea_; subst ea_)); subst ec_; clear en_))
                 have GB24 := A0_ gb24; have GG24 := A0_ HG24; clear gb24 gl24 HG24
                 obtain ⟨hx24_0, hf24_0⟩ := Kd.R_celln false HO_162000.out ((rd t166 (rd l1 x32_1)) : Int) p24 q24
                 replace p24 := eq_true p24; replace q24 := eq_true q24
                 have HP38 := Kd.R_putn HO_162000.out ((rd t166 (rd l1 x32_1)) : Int) true
                 rw [← Ny171.out] at HP38
                 have HQ38 := A0_ HP38; clear HP38
                 have p27 : 0 ≤ ((rd l0_1 (rd t166 (rd l1 x32_1))) : Int) := zd
                 have q27 : ((rd l0_1 (rd t166 (rd l1 x32_1))) : Int) < ((x162000_1.length : Int) : Int) := zd
                 obtain ⟨hx27_0, hf27_0⟩ := Kd.R_celln false HQ38.out ((rd l0_1 (rd t166 (rd l1 x32_1))) : Int) p27 q27
                 replace p27 := eq_true p27; replace q27 := eq_true q27
                 have HP39 := Kd.R_putn HQ38.out ((rd l0_1 (rd t166 (rd l1 x32_1))) : Int) true
                 rw [← Ny172.out] at HP39
                 have HQ39 := A0_ HP39; clear HP39
                 refine start_ (n := 8) (S := fun w' => w'.cell? ⟨gb161, 0, none⟩ = some (.slice (some ⟨go24, 0, none⟩) x162000_1.length co24)) (ds := [7]) #[false, false, false, false, false, false, false, false] (by kernel_rfl) rfl rfl ((kC BK161.out 0).trans rfl) (fun hHeld => ?_); refine with_tabW impl_ribbon.tab9 impl_ribbon.bits9 (fun HT_ HW_ => ?_)
                 generalize w34.drew = w37 at HO_7 HO_158000 HO_162000 HO168 BK157 BK161 HB GG24 HQ38 HQ39 hf24_0 hf27_0 hx24_0 hx27_0 hHeld ⊢
                 refine zP 1 (some 47) #[false,true,false,false,false,false,false,false] ?_
                 refine zP 3 (some 49) #[false,true,false,true,false,false,false,false] ?_
                 refine take_ (i := 0) (N := some 46) (v := ?_) (a' := ?_) #[true, true, false, true, false, false, false, false] rfl rfl (take_ofW HT_.out HW_.out (by kernel_rfl)) (fun _ _ _ h => h) (Or.inl ⟨by rfl, ?_⟩) hHeld ?_ ?_
                 rotate_left
                 ·intro w' s0
                  go_simp
                  with_reducible rfl
                 rotate_left
                 ·simp only [Act.put, List.setIfInBounds_toArray, List.set_cons_zero, List.set_cons_succ, i64_w, i32_w]
                  rfl
                 refine zP 4 (some 50) #[true,true,false,true,true,false,false,false] ?_
                 refine take_ (i := 2) (N := some 48) (v := ?_) (a' := ?_) #[true, true, true, true, true, false, false, false] rfl rfl (take_ofW HT_.out HW_.out (by kernel_rfl)) (fun _ _ _ h => h) (Or.inl ⟨by rfl, ?_⟩) hHeld ?_ ?_
                 rotate_left
                 ·intro w' s0
                  go_simp
                  with_reducible rfl
                 rotate_left
                 ·simp only [Act.put, List.setIfInBounds_toArray, List.set_cons_zero, List.set_cons_succ, i64_w, i32_w]
                  rfl
                 refine one_ (i := 5) (N := none) #[true, true, true, true, true, true, false, false] rfl rfl (one_of HT_.out (by kernel_rfl)) (by decide) (fun K hK => ?_)
                 refine skip_ (w1 := ?_) (by rfl) rfl ?_ ?_
                 rotate_left
                 ·go_simp
                  rfl
                 refine hK.out _ _ ((cell_far (show gb161 ≠ _ from (by have h_ := Kd.R_ne HO_162000.out BK161.out (by decide); intro e_; exact h_ (by rw [e_]; rfl))) _).trans (hHeld)) (fun hHeld => ?_)
                 clear hK K
                 refine zP 6 (some 51) #[true,true,true,true,true,true,true,false] ?_
                 refine last_ (i := 7) (N := none) #[true, true, true, true, true, true, true, true] rfl rfl (one_of HT_.out (by kernel_rfl)) (by decide) (fun K hK => ?_)
                 refine skip_ (w1 := ?_) (by rfl) rfl ?_ ?_
                 rotate_left
                 ·go_simp
                  rfl
                 refine hK.out _ _ ?_
                 clear hK K
                 refine done_ (done_of HT_.out (by kernel_rfl)) ?_
                 have n0_ : Aside0 (Kd.R (Kd.int .i64) 3 ((w37.setCell ⟨go24, ((rd t166 (rd l1 x32_1)) : Int).toNat, none⟩ (.bool true)).setCell ⟨go24, ((rd l0_1 (rd t166 (rd l1 x32_1))) : Int).toNat, none⟩ (.bool true)) w.heap.size (fun k_ => (w.heap.size ≤ k_) ∧ some k_ ≠ (.slice (some ad169) t166.length co35 : Value).ownBlock) v163 x7_1) := ⟨by (with_reducible repeat (first | apply rA | apply rN | apply rD)); exact rM (rF (p := ⟨go24, ((rd l0_1 (rd t166 (rd l1 x32_1))) : Int).toNat, none⟩) (rF (p := ⟨go24, ((rd t166 (rd l1 x32_1)) : Int).toNat, none⟩) (rY HO_7.out GG24.out (by decide)) (fun _ hk => hk.2) (.bool true)) (fun _ hk => hk.2) (.bool true)) (fun _ hk => ⟨hk.1.1, hk.1.2⟩)⟩
                 have n1_ : Aside0 (Kd.V (Kd.int .i64) 3 ((w37.setCell ⟨go24, ((rd t166 (rd l1 x32_1)) : Int).toNat, none⟩ (.bool true)).setCell ⟨go24, ((rd l0_1 (rd t166 (rd l1 x32_1))) : Int).toNat, none⟩ (.bool true)) w.heap.size (fun k_ => (P0_0_ k_ ∨ w.heap.size ≤ k_) ∧ some k_ ≠ (v163 : Value).ownBlock ∧ some k_ ≠ (.slice (some ⟨go24, 0, none⟩) x162000_1.length co24 : Value).ownBlock ∧ some k_ ≠ (.slice (some ad169) t166.length co35 : Value).ownBlock ∧ k_ ≠ gb157 ∧ k_ ≠ gb161) (.slice A0_0 l0_0.length c0_0) l0_0) := ⟨by (with_reducible repeat (first | apply Kd.V_alloc | apply Kd.V_drewN | apply Kd.V_drew)); exact Kd.V_mono (Kd.V_far (p := ⟨go24, ((rd l0_1 (rd t166 (rd l1 x32_1))) : Int).toNat, none⟩) (Kd.V_far (p := ⟨go24, ((rd t166 (rd l1 x32_1)) : Int).toNat, none⟩) (Kd.V_mono HO_158000.out (fun k_ hk => (⟨hk, fun e_ => hk.1.2.2.1 (by rw [e_]; rfl)⟩ : _ ∧ k_ ≠ go24))) (fun _ hk => hk.2) (.bool true)) (fun _ hk => hk.2) (.bool true)) (fun _ hk => ⟨hk.1.1.1, ⟨hk.1.1.2.1, ⟨hk.1.1.2.2.1, ⟨hk.1.2, ⟨hk.1.1.2.2.2.1, hk.1.1.2.2.2.2⟩⟩⟩⟩⟩)⟩
                 have n2_ : Aside0 (Kd.R Kd.bool 4 ((w37.setCell ⟨go24, ((rd t166 (rd l1 x32_1)) : Int).toNat, none⟩ (.bool true)).setCell ⟨go24, ((rd l0_1 (rd t166 (rd l1 x32_1))) : Int).toNat, none⟩ (.bool true)) w.heap.size (fun k_ => (w.heap.size ≤ k_)) (.slice (some ⟨go24, 0, none⟩) x162000_1.length co24) y172) := ⟨zR_ HQ39⟩
                 have n3_ : Aside0 (Kd.R (Kd.int .i64) 3 ((w37.setCell ⟨go24, ((rd t166 (rd l1 x32_1)) : Int).toNat, none⟩ (.bool true)).setCell ⟨go24, ((rd l0_1 (rd t166 (rd l1 x32_1))) : Int).toNat, none⟩ (.bool true)) w.heap.size (fun k_ => (w.heap.size ≤ k_) ∧ some k_ ≠ (v163 : Value).ownBlock) (.slice (some ad169) t166.length co35) t166) := ⟨by (with_reducible repeat (first | apply rA | apply rN | apply rD)); exact rM (rF (p := ⟨go24, ((rd l0_1 (rd t166 (rd l1 x32_1))) : Int).toNat, none⟩) (rF (p := ⟨go24, ((rd t166 (rd l1 x32_1)) : Int).toNat, none⟩) (rY HO168.out GG24.out (by decide)) (fun _ hk => hk.2) (.bool true)) (fun _ hk => hk.2) (.bool true)) (fun _ hk => ⟨hk.1.1.1, hk.1.2⟩)⟩
                 have n4_ : Aside0 (((w37.setCell ⟨go24, ((rd t166 (rd l1 x32_1)) : Int).toNat, none⟩ (.bool true)).setCell ⟨go24, ((rd l0_1 (rd t166 (rd l1 x32_1))) : Int).toNat, none⟩ (.bool true)).heap[gb157]? = some (.cells #[.slice A0_0 l0_0.length c0_0, .slice (some ad170) l0_1.length c0_1] 25 (0, 0))) := ⟨by (with_reducible repeat (first | refine kN ?_ _ | refine kD ?_ | refine kA ?_ _)); refine blk_far ?_ (by have h_ := Kd.R_ne HO_162000.out BK157.out (by decide); intro e_; exact h_ (by rw [e_]; rfl)) _; (with_reducible repeat (first | refine kN ?_ _ | refine kD ?_ | refine kA ?_ _)); refine blk_far ?_ (by have h_ := Kd.R_ne HO_162000.out BK157.out (by decide); intro e_; exact h_ (by rw [e_]; rfl)) _; (with_reducible repeat (first | refine kN ?_ _ | refine kD ?_ | refine kA ?_ _)); exact BK157.out⟩
                 have n5_ : Aside0 (((w37.setCell ⟨go24, ((rd t166 (rd l1 x32_1)) : Int).toNat, none⟩ (.bool true)).setCell ⟨go24, ((rd l0_1 (rd t166 (rd l1 x32_1))) : Int).toNat, none⟩ (.bool true)).heap[gb161]? = some (.cells #[.slice (some ⟨go24, 0, none⟩) x162000_1.length co24] 97 (0, 0))) := ⟨by (with_reducible repeat (first | refine kN ?_ _ | refine kD ?_ | refine kA ?_ _)); refine blk_far ?_ (by have h_ := Kd.R_ne HO_162000.out BK161.out (by decide); intro e_; exact h_ (by rw [e_]; rfl)) _; (with_reducible repeat (first | refine kN ?_ _ | refine kD ?_ | refine kA ?_ _)); refine blk_far ?_ (by have h_ := Kd.R_ne HO_162000.out BK161.out (by decide); intro e_; exact h_ (by rw [e_]; rfl)) _; (with_reducible repeat (first | refine kN ?_ _ | refine kD ?_ | refine kA ?_ _)); exact BK161.out⟩
                 have n6_ : Aside0 (Below w.heap.size w ((w37.setCell ⟨go24, ((rd t166 (rd l1 x32_1)) : Int).toNat, none⟩ (.bool true)).setCell ⟨go24, ((rd l0_1 (rd t166 (rd l1 x32_1))) : Int).toNat, none⟩ (.bool true))) := ⟨by repeat (first | (with_reducible first | exact HB.out | apply bA | apply bN | apply bD | refine bS ?_ GB24.out | refine bS ?_ GB24.out | refine bS ?_ GE157.out | refine bS ?_ GE161.out) | exact HB.out)⟩
                 (try clear HO_7); (try clear HO_158000); (try clear HO_162000); (try clear HO168); (try clear BK157); (try clear BK161); (try clear HB)
                 generalize ((w37.setCell ⟨go24, ((rd t166 (rd l1 x32_1)) : Int).toNat, none⟩ (.bool true)).setCell ⟨go24, ((rd l0_1 (rd t166 (rd l1 x32_1))) : Int).toNat, none⟩ (.bool true)) = w40 at n0_ n1_ n2_ n3_ n4_ n5_ n6_ ⊢
                 have HO_7 := n0_; have HO_158000 := n1_; have HO_162000 := n2_; have HO168 := n3_; have BK157 := n4_; have BK161 := n5_; have HB := n6_; clear n0_ n1_ n2_ n3_ n4_ n5_ n6_
                 have p29 : 0 ≤ ((rd t166 (rd l1 x32_1)) : Int) := zd
                 have q29 : ((rd t166 (rd l1 x32_1)) : Int) < ((x7_1.length : Int) : Int) := zd
                 obtain ⟨go29, co29, eo29, gb29, gl29, cl29, HG29⟩ := Kd.R_form HO_7.out (by omega)
                 (first | cases eo29 | (injection eo29 with ea_ en_ ec_; (first | subst ea_ | (injection ea_ with ea_; subst ea_)); subst ec_; clear en_))
                 have GB29 := A0_ gb29; have GG29 := A0_ HG29; clear gb29 gl29 HG29
                 obtain ⟨hx29_0, hf29_0⟩ := Kd.R_celln 0 HO_7.out ((rd t166 (rd l1 x32_1)) : Int) p29 q29
                 replace p29 := eq_true p29; replace q29 := eq_true q29
                 obtain ⟨hy41_, hz41_⟩ := Kd.R_celln 0 HO_7.out ((rd t166 (rd l1 x32_1)) : Int) (zd) (zd)
                 have HP41 := Kd.R_putg HO_7.out ((rd t166 (rd l1 x32_1)) : Int) (rd l0_1 (rd t166 (rd l1 x32_1)))
                 try go_wp2_with (first | ((with_reducible refine gS (t := 3) (p := 58) rfl ?_); refine store_event (t := 3) (p := 58) (v := ?vo_w42) (w1 := (w40.setCell ⟨go29, ((rd t166 (rd l1 x32_1)) : Int).toNat, none⟩ (.int .i64 (rd l0_1 (rd t166 (rd l1 x32_1)))))) ?hg ?ho ?hn ?hr ?_; (case ho => rfl); (case hg => rfl); (case hn => rfl); (case hr => first | (go_simp; done) | (go_simp; rfl)); intro w42 hw; have hg : w40.grownBy w42 (some go29) := (by rw [hw]; exact HP41.2); have hp_ : Kd.R (Kd.int .i64) 3 w42 w.heap.size (fun k_ => (w.heap.size ≤ k_) ∧ some k_ ≠ (.slice (some ad169) t166.length co35 : Value).ownBlock) (.slice (some ⟨go29, 0, none⟩) x7_1.length co29) y173 := (by rw [hw, Ny173.out]; exact HP41.1); clear HP41; replace HO_158000 := A0_ (Kd.V_afterv (v := (.slice (some ⟨go29, 0, none⟩) x7_1.length co29)) (v1 := (.slice (some ⟨go29, 0, none⟩) x7_1.length co29)) (ok := (fun k_ => (P0_0_ k_ ∨ w.heap.size ≤ k_) ∧ some k_ ≠ (.slice (some ⟨go24, 0, none⟩) x162000_1.length co24 : Value).ownBlock ∧ some k_ ≠ (.slice (some ad169) t166.length co35 : Value).ownBlock ∧ k_ ≠ gb157 ∧ k_ ≠ gb161)) (by (with_reducible repeat (first | apply Kd.V_alloc | apply Kd.V_drewN | apply Kd.V_drew)); exact Kd.V_mono HO_158000.out (fun _ hk => ⟨⟨hk.1, ⟨hk.2.2.1, ⟨hk.2.2.2.1, ⟨hk.2.2.2.2.1, hk.2.2.2.2.2⟩⟩⟩⟩, hk.2.1⟩)) hg (.inl rfl)); replace HO_162000 := A0_ (Kd.R_over' (v := (.slice (some ⟨go29, 0, none⟩) x7_1.length co29)) (zR_ HO_162000) (Kd.R_typed HO_7.out) (by decide) hg); replace BK157 := A0_ (blk_grown (g := gb157) (o := .cells #[.slice A0_0 l0_0.length c0_0, .slice (some ad170) l0_1.length c0_1] 25 (0, 0)) (zK_ BK157) hg (Kd.R_ne HO_7.out BK157.out (by decide))); replace BK161 := A0_ (blk_grown (g := gb161) (o := .cells #[.slice (some ⟨go24, 0, none⟩) x162000_1.length co24] 97 (0, 0)) (zK_ BK161) hg (Kd.R_ne HO_7.out BK161.out (by decide))); replace HO_7 := A0_ (hp_); replace HO168 := A0_ (Kd.R_after (v := (.slice (some ⟨go29, 0, none⟩) x7_1.length co29)) (v1 := (.slice (some ⟨go29, 0, none⟩) x7_1.length co29)) (ok := (fun k_ => (w.heap.size ≤ k_))) (zR_ HO168) hg (.inl rfl)); replace HB := A0_ ((by rw [hw]; exact bS (HB.out) GB29.out : Below w.heap.size w w42)); clear hg hw hp_; have p31 : 0 ≤ ((rd l0_1 (rd t166 (rd l1 x32_1))) : Int) := zd; have q31 : ((rd l0_1 (rd t166 (rd l1 x32_1))) : Int) < ((x7_1.length : Int) : Int) := zd; obtain ⟨hx31_0, hf31_0⟩ := Kd.R_celln 0 HO_7.out ((rd l0_1 (rd t166 (rd l1 x32_1))) : Int) p31 q31; replace p31 := eq_true p31; replace q31 := eq_true q31; obtain ⟨hy43_, hz43_⟩ := Kd.R_celln 0 HO_7.out ((rd l0_1 (rd t166 (rd l1 x32_1))) : Int) (zd) (zd); have HP43 := Kd.R_putg HO_7.out ((rd l0_1 (rd t166 (rd l1 x32_1))) : Int) (rd t166 (rd l1 x32_1))) | ((with_reducible refine gS (t := 3) (p := 59) rfl ?_); refine store_event (t := 3) (p := 59) (v := ?vo_w44) (w1 := (w42.setCell ⟨go29, ((rd l0_1 (rd t166 (rd l1 x32_1))) : Int).toNat, none⟩ (.int .i64 (rd t166 (rd l1 x32_1))))) ?hg ?ho ?hn ?hr ?_; (case ho => rfl); (case hg => rfl); (case hn => rfl); (case hr => first | (go_simp; done) | (go_simp; rfl)); intro w44 hw; have hg : w42.grownBy w44 (some go29) := (by rw [hw]; exact HP43.2); have hp_ : Kd.R (Kd.int .i64) 3 w44 w.heap.size (fun k_ => (w.heap.size ≤ k_) ∧ some k_ ≠ (.slice (some ad169) t166.length co35 : Value).ownBlock) (.slice (some ⟨go29, 0, none⟩) x7_1.length co29) y174 := (by rw [hw, Ny174.out]; exact HP43.1); clear HP43; replace HO_158000 := A0_ (Kd.V_afterv (v := (.slice (some ⟨go29, 0, none⟩) x7_1.length co29)) (v1 := (.slice (some ⟨go29, 0, none⟩) x7_1.length co29)) (ok := (fun k_ => (P0_0_ k_ ∨ w.heap.size ≤ k_) ∧ some k_ ≠ (.slice (some ⟨go24, 0, none⟩) x162000_1.length co24 : Value).ownBlock ∧ some k_ ≠ (.slice (some ad169) t166.length co35 : Value).ownBlock ∧ k_ ≠ gb157 ∧ k_ ≠ gb161)) (by (with_reducible repeat (first | apply Kd.V_alloc | apply Kd.V_drewN | apply Kd.V_drew)); exact HO_158000.out) hg (.inl rfl)); replace HO_162000 := A0_ (Kd.R_over' (v := (.slice (some ⟨go29, 0, none⟩) x7_1.length co29)) (zR_ HO_162000) (Kd.R_typed HO_7.out) (by decide) hg); replace BK157 := A0_ (blk_grown (g := gb157) (o := .cells #[.slice A0_0 l0_0.length c0_0, .slice (some ad170) l0_1.length c0_1] 25 (0, 0)) (zK_ BK157) hg (Kd.R_ne HO_7.out BK157.out (by decide))); replace BK161 := A0_ (blk_grown (g := gb161) (o := .cells #[.slice (some ⟨go24, 0, none⟩) x162000_1.length co24] 97 (0, 0)) (zK_ BK161) hg (Kd.R_ne HO_7.out BK161.out (by decide))); replace HO_7 := A0_ (hp_); replace HO168 := A0_ (Kd.R_after (v := (.slice (some ⟨go29, 0, none⟩) x7_1.length co29)) (v1 := (.slice (some ⟨go29, 0, none⟩) x7_1.length co29)) (ok := (fun k_ => (w.heap.size ≤ k_))) (zR_ HO168) hg (.inl rfl)); replace HB := A0_ ((by rw [hw]; exact bS (HB.out) GB29.out : Below w.heap.size w w44)); clear hg hw hp_))
                 go_roundg k1
                 case measure => have := HK1.out; omega
                 case rel => exact ⟨(y174), (wrap64 (x32_1 + 1)), (y172), (.slice (some ⟨go24, 0, none⟩) x162000_1.length co24), zt, H', ⟨by have := HK1.out; omega⟩, ⟨zmR HO_7 (fun _ hk => hk.1)⟩, ⟨by (with_reducible repeat (first | apply Kd.V_alloc | apply Kd.V_drewN | apply Kd.V_drew)); exact Kd.V_mono HO_158000.out (fun _ hk => ⟨hk.1.1, ⟨hk.2, ⟨hk.1.2.1, ⟨hk.1.2.2.2.1, hk.1.2.2.2.2⟩⟩⟩⟩)⟩, ⟨zR_ HO_162000⟩, ⟨zK_ BK157⟩, ⟨zK_ BK161⟩, ⟨zB_ HB⟩⟩
                rw [if_neg c30] at H
                exact absurd H (by simp)
               rw [if_neg c28] at H
               exact absurd H (by simp)
              rw [if_neg c26] at H
              exact absurd H (by simp)
             rw [if_neg c25] at H
             exact absurd H (by simp)
            rw [if_neg c23] at H
            exact absurd H (by simp)
           rw [if_neg c22] at H
           exact absurd H (by simp)
          rw [if_neg c21] at H
          exact absurd H (by simp)
         rw [if_neg c20] at H
         exact absurd H (by simp)
        rw [if_neg c19] at H
        exact absurd H (by simp)
       rw [if_neg c17] at H
       exact absurd H (by simp)
      rw [if_neg c16] at H
      exact absurd H (by simp)
     rw [if_neg c15] at H; have c15b0 := dF c15; clear c15
     obtain ⟨Ao7_, co7_, eo7_⟩ := rS HO_7.out; subst eo7_; obtain ⟨y175, hy175⟩ : ∃ y_ : List (List Int), y_ = (([l0_0, x7_1] : List (List Int))) := ⟨_, rfl⟩
     replace H : ((impl_orbits.f k1 y175).bind fun t178 => (impl_ribbon.l1 k1 l1 (l0_0.length : Int) x7_1 0 t178 (t178.length : Int) 0 l0_0 l0_1 x162000_1)) = some r := zH hy175 H
     have Ny175 := A0_ hy175; clear hy175; obtain ⟨t178, A45, H⟩ := zbind H; have H' := A0_ H; clear H; have hnb46 := NB157_161.out; have hnc46 := NB161_157.out; have hcz47_0 := zc0 BK157; have hcz47_1 := zc1 BK157; have hfz47_0 := kF BK157.out 0; have hfz47_1 := kF BK157.out 1
     go_wp2_with (first | ((with_reducible refine gD (N := 64) rfl ?_); refine Kd.N_lit (Kd.slice 3 (Kd.int .i64)) _ 23 ?hg (N' := 64) ?hd (xs := ([l0_0, x7_1] : List (List Int))) (inner := [.slice A0_0 l0_0.length c0_0, (.slice Ao7_ x7_1.length co7_)]) (ok := (fun _ : Nat => True)) (okp := (fun _ : Nat => True)) ?hr ?hp (fun _ hk => hk) ((show ∀ k_, wr.heap.size ≤ k_ → (fun _ : Nat => True) k_ from fun _ _ => trivial) _ (Nat.le_refl _)) (Below.refl _ _) (Nat.le_refl _) (by simp) ?_; (case hd => rfl); (case hg => rfl); (case hr => first | (go_simp; done) | (go_simp; rfl)); (case hp => exact (Reps.one (show Kd.FK (Kd.slice 3 (Kd.int .i64)) _ _ l0_0 [.slice A0_0 l0_0.length c0_0] from Kd.FK_slice_mk (Kd.V_reads' HO_158000.out).2.1 (Kd.V_F (Kd.V_mono HO_158000.out (fun _ _ => trivial)))) (Reps.one (show Kd.FK (Kd.slice 3 (Kd.int .i64)) _ _ x7_1 [(.slice Ao7_ x7_1.length co7_)] from Kd.FK_slice_mk (rR HO_7.out).2.1 (Kd.V_F (Kd.V_mono (Kd.R_V (base' := 0) HO_7.out) (fun _ _ => trivial)))) (Reps.none _ _)))); intro v176 w48 ho49 hb hg_ hnew_; clear hg_ hnew_; (first | rw [← Ny175.out] at ho49 | (simp only [Int.reduceToNat] at ho49; rw [← Ny175.out] at ho49)); replace HO_7 := zR HO_7 hb; replace HO_158000 := A0_ (Kd.V_elder' (by (with_reducible repeat (first | apply Kd.V_alloc | apply Kd.V_drewN | apply Kd.V_drew)); exact HO_158000.out) (Kd.N_base ho49) hb); replace HO_162000 := zR HO_162000 hb; have HO177 := A0_ (Kd.N_lower ho49 (bZ (zB_ HB))); replace BK157 := zK BK157 hb; replace BK161 := zK BK161 hb; replace HB := zB HB hb; clear hb ho49; obtain ⟨Ao50, co50, eo50⟩ := Kd.N_slice HO177.out; subst eo50) | ((with_reducible refine gC (f := 60) rfl ?_); refine zJ (some 65) Tryz.func60 #[.slice Ao50 y175.length co50] ?_; (with_reducible refine (impl_orbits.calls k1 _ _ y175 t178 _ ?side1 ?side2 A45.out).mono ?_); (case side1 => repeat (first | exact (Kd.N_reads' HO177.out).2.2 | (with_reducible refine cA ?_ _) | (with_reducible refine cN ?_ _) | (with_reducible refine cD ?_))); (case side2 => exact (Kd.N_reads' HO177.out).2.1); rintro e w51 ⟨v179, rfl, ho0, hb⟩; refine ⟨_, rfl, ?_⟩; replace HO_158000 := A0_ (Kd.V_elder' (by (with_reducible repeat (first | apply Kd.V_alloc | apply Kd.V_drewN | apply Kd.V_drew)); exact HO_158000.out) (Kd.R_base ho0) hb); replace HO_162000 := zR HO_162000 hb; replace HO177 := A0_ (Kd.N_elder' (by (with_reducible repeat (first | apply Kd.N_alloc | apply Kd.N_drewN | apply Kd.N_drew)); exact HO177.out) (Kd.R_base ho0) hb); have HO180 := A0_ (rL (Kd.R_new' (Kd.R_newM (M := fun k_ => (w.heap.size ≤ k_)) ho0 (bZ (zB_ HB)) (fun k_ h_ => h_)) (rX (zR_ HO_7))) (bZ (zB_ HB))); replace HO_7 := A0_ (Kd.R_elder' (zR_ HO_7) (Kd.R_base ho0) hb); replace BK157 := zK BK157 hb; replace BK161 := zK BK161 hb; replace HB := zB HB hb; (try clear hb); (try clear ho0); obtain ⟨Ao52, co52, eo52⟩ := rS HO180.out; subst eo52))
     go_loopg [12, 67] k1 (fun kq v12 v67 w' => ∃ (x12_2 : Int) (x67_2 : Int), v12 = .int .i64 x12_2 ∧ v67 = .int .i64 x67_2 ∧ Aside0 (impl_ribbon.l1 kq l1 (l0_0.length : Int) x7_1 x12_2 t178 (t178.length : Int) x67_2 l0_0 l0_1 x162000_1 = some r) ∧ Aside0 (kq ≤ k1) ∧ Aside0 (Kd.R (Kd.int .i64) 3 w' w.heap.size (fun k_ => (w.heap.size ≤ k_) ∧ some k_ ≠ ((.slice Ao52 t178.length co52) : Value).ownBlock) (.slice Ao7_ x7_1.length co7_) x7_1) ∧ Aside0 (Kd.R (Kd.int .i64) 3 w' w.heap.size (fun k_ => (w.heap.size ≤ k_) ∧ some k_ ≠ ((.slice Ao7_ x7_1.length co7_) : Value).ownBlock) (.slice Ao52 t178.length co52) t178) ∧ Aside0 (Kd.V (Kd.int .i64) 3 w' w.heap.size (fun k_ => (P0_0_ k_ ∨ w.heap.size ≤ k_) ∧ some k_ ≠ ((.slice Ao7_ x7_1.length co7_) : Value).ownBlock ∧ some k_ ≠ ((.slice Ao52 t178.length co52) : Value).ownBlock ∧ some k_ ≠ (u162000 : Value).ownBlock ∧ k_ ≠ gb157 ∧ k_ ≠ gb161) (.slice A0_0 l0_0.length c0_0) l0_0) ∧ Aside0 (Kd.R Kd.bool 4 w' w.heap.size (fun k_ => (w.heap.size ≤ k_)) u162000 x162000_1) ∧ Aside0 (w'.heap[gb157]? = some (.cells #[(.slice A0_0 l0_0.length c0_0), (.slice A0_1 l0_1.length c0_1)] 25 (0, 0))) ∧ Aside0 (w'.heap[gb161]? = some (.cells #[u162000] 97 (0, 0))) ∧ Aside0 (Below w.heap.size w w'))
     case atStart => exact ⟨(0), (0), zt, zt, H', ⟨Nat.le_refl _⟩, ⟨zR_ HO_7⟩, ⟨zmR HO180 (fun _ hk => ⟨hk.1.1, hk.2⟩)⟩, ⟨by (with_reducible repeat (first | apply Kd.V_alloc | apply Kd.V_drewN | apply Kd.V_drew)); exact Kd.V_mono HO_158000.out (fun _ hk => ⟨hk.1.1.1, ⟨hk.1.1.2.1, ⟨hk.2, ⟨hk.1.1.2.2.1, ⟨hk.1.1.2.2.2.1, hk.1.1.2.2.2.2⟩⟩⟩⟩⟩)⟩, ⟨zR_ HO_162000⟩, ⟨zK_ BK157⟩, ⟨zK_ BK161⟩, ⟨zB_ HB⟩⟩
     case round =>
      clear H'; (try clear c1); (try clear p1); (try clear q1); (try clear hx1); (try clear c2); (try clear p2); (try clear q2); (try clear hx2); (try clear hf2); (try clear c3); (try clear c3b0); (try clear c3b1); (try clear p3); (try clear q3); (try clear hx3); (try clear hf3); (try clear c4); (try clear c4b0); (try clear c4b1); (try clear c6); (try clear p6); (try clear c8); (try clear c12); (try clear c15); (try clear c15b0); (try clear c16); (try clear c16b0); (try clear p16); (try clear q16); (try clear hx16); (try clear c17); (try clear c17b0); (try clear p17); (try clear q17); (try clear hx17); (try clear c19); (try clear c19b0); (try clear c20); (try clear c20b0); (try clear c21); (try clear c21b0); (try clear c22); (try clear c22b0); (try clear c23); (try clear c23b0); (try clear p24); (try clear q24); (try clear hx24); (try clear hf24); (try clear c25); (try clear c25b0); (try clear c26); (try clear c26b0); (try clear p27); (try clear q27); (try clear hx27); (try clear hf27); (try clear c28); (try clear c28b0); (try clear p29); (try clear q29); (try clear hx29); (try clear hf29); (try clear c30); (try clear c30b0); (try clear p31); (try clear q31); (try clear hx31); (try clear hf31); (try clear c32); (try clear c40); (try clear c46); (try clear c48); (try clear hcz13_0); (try clear hcz33_0); (try clear hcz33_1); (try clear hcz36_0); (try clear hcz36_1); (try clear hcz47_0); (try clear hcz47_1); (try clear hcz7_0); (try clear hcz7_1); (try clear hfz13_0); (try clear hfz33_0); (try clear hfz33_1); (try clear hfz36_0); (try clear hfz36_1); (try clear hfz47_0); (try clear hfz47_1); (try clear hfz7_0); (try clear hfz7_1); (try clear hx165_0); (try clear hx169_0); (try clear hx170_0); (try clear hx24_0); (try clear hx27_0); (try clear hx29_0); (try clear hx31_0); (try clear p165); (try clear p169); (try clear p170); (try clear p2); (try clear p24); (try clear p27); (try clear p29); (try clear p31); (try clear q165); (try clear q169); (try clear q170); (try clear q24); (try clear q27); (try clear q29); (try clear q31); obtain ⟨x12_2, x67_2, rfl, rfl, HA, HK2, HO_7, HO_65, HO_158000, HO_162000, BK157, BK161, HB⟩ := hrel
      cases gk with
      | zero => exact absurd HA.out (by simp [impl_ribbon.l1])
      | succ k2 =>
       have H := HA.out; clear HA; simp only [impl_ribbon.l1] at H
       by_cases c53 : x67_2 < (t178.length : Int)
       ·rw [if_pos c53] at H
        have c53b0 := dT c53; clear c53
        by_cases c54 : 0 ≤ x67_2
        ·rw [if_pos c54] at H
         have c54b0 := dT c54; clear c54
         by_cases c55 : x67_2 < (t178.length : Int)
         ·rw [if_pos c55] at H
          have c55b0 := dT c55; clear c55
          by_cases c56 : x67_2 = (rd t178 x67_2)
          ·rw [if_pos c56] at H
           have c56b0 : (x67_2 == (rd t178 x67_2)) = true := beq_iff_eq.mpr c56
           have c56b1 : (x67_2 != (rd t178 x67_2)) = false := bne_eq_false_iff_eq.mpr c56
           clear c56; have H' := A0_ H; clear H
           have p181 : 0 ≤ (x67_2 : Int) := zd
           have q181 : x67_2 < (t178.length : Int) := zd
           obtain ⟨ad181, e181, hx181_0⟩ := tI (rR HO_65.out).2.2 x67_2 p181 q181
           cases e181
           replace p181 := eq_true p181; replace q181 := eq_true q181
           go_wp2
           go_roundg k2
           case measure => have := HK1.out; have := HK2.out; omega
           case rel => exact ⟨(wrap64 (x12_2 + 1)), (wrap64 (x67_2 + 1)), zt, zt, H', ⟨by have := HK1.out; have := HK2.out; omega⟩, ⟨zR_ HO_7⟩, ⟨zR_ HO_65⟩, ⟨by (with_reducible repeat (first | apply Kd.V_alloc | apply Kd.V_drewN | apply Kd.V_drew)); exact HO_158000.out⟩, ⟨zR_ HO_162000⟩, ⟨zK_ BK157⟩, ⟨zK_ BK161⟩, ⟨zB_ HB⟩⟩
          rw [if_neg c56] at H
          have c56b0 : (x67_2 == (rd t178 x67_2)) = false := beq_eq_false_iff_ne.mpr c56
          have c56b1 : (x67_2 != (rd t178 x67_2)) = true := bne_iff_ne.mpr c56
          have H' := A0_ H; clear H
          have p181 : 0 ≤ (x67_2 : Int) := zd
          have q181 : x67_2 < (t178.length : Int) := zd
          obtain ⟨ad181, e181, hx181_0⟩ := tI (rR HO_65.out).2.2 x67_2 p181 q181
          cases e181
          replace p181 := eq_true p181; replace q181 := eq_true q181
          go_wp2
          go_roundg k2
          case measure => have := HK1.out; have := HK2.out; omega
          case rel => exact ⟨(x12_2), (wrap64 (x67_2 + 1)), zt, zt, H', ⟨by have := HK1.out; have := HK2.out; omega⟩, ⟨zR_ HO_7⟩, ⟨zR_ HO_65⟩, ⟨by (with_reducible repeat (first | apply Kd.V_alloc | apply Kd.V_drewN | apply Kd.V_drew)); exact HO_158000.out⟩, ⟨zR_ HO_162000⟩, ⟨zK_ BK157⟩, ⟨zK_ BK161⟩, ⟨zB_ HB⟩⟩
         rw [if_neg c55] at H
         exact absurd H (by simp)
        rw [if_neg c54] at H
        exact absurd H (by simp)
       rw [if_neg c53] at H; have c53b0 := dF c53; clear c53; obtain ⟨t182, A57, H⟩ := zbind H; have H' := A0_ H; clear H; have hnb58 := NB157_161.out; have hnc58 := NB161_157.out; have hcz59_0 := zc0 BK157; have hcz59_1 := zc1 BK157; have hfz59_0 := kF BK157.out 0; have hfz59_1 := kF BK157.out 1
       go_wp2_with (first | ((with_reducible refine gC (f := 81) rfl ?_); refine zJ (some 80) Tryz.func81 #[.slice A0_0 l0_0.length c0_0] ?_; (with_reducible refine (impl_cyclesOf.calls k2 _ _ l0_0 t182 _ ?side1 ?side2 A57.out).mono ?_); (case side1 => repeat (first | exact (Kd.V_reads' HO_158000.out).2.2 | (with_reducible refine cA ?_ _) | (with_reducible refine cN ?_ _) | (with_reducible refine cD ?_))); (case side2 => exact (Kd.V_reads' HO_158000.out).2.1); rintro e w60 ⟨v183, rfl, ho0, hb⟩; refine ⟨_, rfl, ?_⟩; replace HO_158000 := A0_ (Kd.V_elder' (by (with_reducible repeat (first | apply Kd.V_alloc | apply Kd.V_drewN | apply Kd.V_drew)); exact HO_158000.out) (Kd.S_base ho0) hb); have HO184 := A0_ (Kd.N_lower (Kd.N_mono (ok' := fun k_ => (P0_0_ k_ ∨ w.heap.size ≤ k_) ∧ some k_ ≠ ((.slice Ao7_ x7_1.length co7_) : Value).ownBlock ∧ some k_ ≠ (.slice Ao52 t178.length co52 : Value).ownBlock ∧ some k_ ≠ (u162000 : Value).ownBlock ∧ k_ ≠ gb157 ∧ k_ ≠ gb161) (Kd.S_N (Kd.S_bound ho0)) (fun k_ hk_ => ⟨(.inr (Nat.le_trans (bZ (zB_ HB)) hk_.2.1)), (Kd.fresh' (rX (zR_ HO_7)) k_ hk_.2.1), (Kd.fresh' (rX (zR_ HO_65)) k_ hk_.2.1), (Kd.fresh' (rX (zR_ HO_162000)) k_ hk_.2.1), (Kd.freshB (g := gb157) (o := .cells #[.slice A0_0 l0_0.length c0_0, .slice A0_1 l0_1.length c0_1] 25 (0, 0)) (zK_ BK157) k_ hk_.2.1), (Kd.freshB (g := gb161) (o := .cells #[u162000] 97 (0, 0)) (zK_ BK161) k_ hk_.2.1)⟩)) (bZ (zB_ HB))); replace HO_7 := zR HO_7 hb; replace HO_65 := zR HO_65 hb; replace HO_162000 := zR HO_162000 hb; replace BK157 := zK BK157 hb; replace BK161 := zK BK161 hb; replace HB := zB HB hb; (try clear hb); (try clear ho0); obtain ⟨Ao61, co61, eo61⟩ := Kd.N_slice HO184.out; subst eo61))
       go_loopg [15, 82] k2 (fun kq v15 v82 w' => ∃ (x15_3 : Int) (x82_3 : Int), v15 = .int .i64 x15_3 ∧ v82 = .int .i64 x82_3 ∧ Aside0 (impl_ribbon.l2 kq l1 (l0_0.length : Int) x7_1 x12_2 x15_3 t182 (t182.length : Int) x82_3 l0_0 l0_1 x162000_1 = some r) ∧ Aside0 (kq ≤ k2) ∧ Aside0 (Kd.R (Kd.int .i64) 3 w' w.heap.size (fun k_ => (w.heap.size ≤ k_)) (.slice Ao7_ x7_1.length co7_) x7_1) ∧ Aside0 (Kd.N (Kd.slice 3 (Kd.int .i64)) 23 w' w.heap.size (fun k_ => (P0_0_ k_ ∨ w.heap.size ≤ k_) ∧ some k_ ≠ ((.slice Ao7_ x7_1.length co7_) : Value).ownBlock ∧ some k_ ≠ (u162000 : Value).ownBlock ∧ k_ ≠ gb157 ∧ k_ ≠ gb161) (.slice Ao61 t182.length co61) t182) ∧ Aside0 (Kd.V (Kd.int .i64) 3 w' w.heap.size (fun k_ => (P0_0_ k_ ∨ w.heap.size ≤ k_) ∧ some k_ ≠ ((.slice Ao7_ x7_1.length co7_) : Value).ownBlock ∧ some k_ ≠ ((.slice Ao61 t182.length co61) : Value).ownBlock ∧ some k_ ≠ (u162000 : Value).ownBlock ∧ k_ ≠ gb157 ∧ k_ ≠ gb161) (.slice A0_0 l0_0.length c0_0) l0_0) ∧ Aside0 (Kd.R Kd.bool 4 w' w.heap.size (fun k_ => (w.heap.size ≤ k_)) u162000 x162000_1) ∧ Aside0 (w'.heap[gb157]? = some (.cells #[(.slice A0_0 l0_0.length c0_0), (.slice A0_1 l0_1.length c0_1)] 25 (0, 0))) ∧ Aside0 (w'.heap[gb161]? = some (.cells #[u162000] 97 (0, 0))) ∧ Aside0 (Below w.heap.size w w'))
       case atStart => exact ⟨(0), (0), zt, zt, H', ⟨Nat.le_refl _⟩, ⟨zmR HO_7 (fun _ hk => hk.1)⟩, ⟨by (with_reducible repeat (first | apply Kd.N_alloc | apply Kd.N_drewN | apply Kd.N_drew)); exact Kd.N_mono HO184.out (fun _ hk => ⟨hk.1, ⟨hk.2.1, ⟨hk.2.2.2.1, ⟨hk.2.2.2.2.1, hk.2.2.2.2.2⟩⟩⟩⟩)⟩, ⟨by (with_reducible repeat (first | apply Kd.V_alloc | apply Kd.V_drewN | apply Kd.V_drew)); exact Kd.V_mono HO_158000.out (fun _ hk => ⟨hk.1.1, ⟨hk.1.2.1, ⟨hk.2, ⟨hk.1.2.2.2.1, ⟨hk.1.2.2.2.2.1, hk.1.2.2.2.2.2⟩⟩⟩⟩⟩)⟩, ⟨zR_ HO_162000⟩, ⟨zK_ BK157⟩, ⟨zK_ BK161⟩, ⟨zB_ HB⟩⟩
       case round =>
        clear H'; (try clear c1); (try clear p1); (try clear q1); (try clear hx1); (try clear c2); (try clear p2); (try clear q2); (try clear hx2); (try clear hf2); (try clear c3); (try clear c3b0); (try clear c3b1); (try clear p3); (try clear q3); (try clear hx3); (try clear hf3); (try clear c4); (try clear c4b0); (try clear c4b1); (try clear c5); (try clear c6); (try clear p6); (try clear c8); (try clear c12); (try clear c15); (try clear c15b0); (try clear c16); (try clear c16b0); (try clear p16); (try clear q16); (try clear hx16); (try clear c17); (try clear c17b0); (try clear p17); (try clear q17); (try clear hx17); (try clear p18); (try clear q18); (try clear hx18); (try clear c19); (try clear c19b0); (try clear c20); (try clear c20b0); (try clear c21); (try clear c21b0); (try clear c22); (try clear c22b0); (try clear c23); (try clear c23b0); (try clear p24); (try clear q24); (try clear hx24); (try clear hf24); (try clear c25); (try clear c25b0); (try clear c26); (try clear c26b0); (try clear p27); (try clear q27); (try clear hx27); (try clear hf27); (try clear c28); (try clear c28b0); (try clear p29); (try clear q29); (try clear hx29); (try clear hf29); (try clear c30); (try clear c30b0); (try clear p31); (try clear q31); (try clear hx31); (try clear hf31); (try clear c32); (try clear c40); (try clear c46); (try clear c48); (try clear c53); (try clear c53b0); (try clear c54); (try clear c54b0); (try clear c55); (try clear c55b0); (try clear c56); (try clear c56b0); (try clear c56b1); (try clear c58); (try clear c60); (try clear hcz13_0); (try clear hcz33_0); (try clear hcz33_1); (try clear hcz36_0); (try clear hcz36_1); (try clear hcz47_0); (try clear hcz47_1); (try clear hcz59_0); (try clear hcz59_1); (try clear hcz7_0); (try clear hcz7_1); (try clear hfz13_0); (try clear hfz33_0); (try clear hfz33_1); (try clear hfz36_0); (try clear hfz36_1); (try clear hfz47_0); (try clear hfz47_1); (try clear hfz59_0); (try clear hfz59_1); (try clear hfz7_0); (try clear hfz7_1); (try clear hx165_0); (try clear hx169_0); (try clear hx170_0); (try clear hx181_0); (try clear hx24_0); (try clear hx27_0); (try clear hx29_0); (try clear hx31_0); (try clear p1); (try clear p16); (try clear p165); (try clear p169); (try clear p17); (try clear p170); (try clear p181); (try clear p2); (try clear p24); (try clear p27); (try clear p29); (try clear p3); (try clear p31); (try clear p6); (try clear q1); (try clear q16); (try clear q165); (try clear q169); (try clear q17); (try clear q170); (try clear q181); (try clear q2); (try clear q24); (try clear q27); (try clear q29); (try clear q3); (try clear q31); obtain ⟨x15_3, x82_3, rfl, rfl, HA, HK3, HO_7, HO_80, HO_158000, HO_162000, BK157, BK161, HB⟩ := hrel
        cases gk with
        | zero => exact absurd HA.out (by simp [impl_ribbon.l2])
        | succ k3 =>
         have H := HA.out; clear HA; simp only [impl_ribbon.l2] at H
         by_cases c62 : x82_3 < (t182.length : Int)
         ·rw [if_pos c62] at H
          have c62b0 := dT c62; clear c62
          by_cases c63 : 0 ≤ x82_3
          ·rw [if_pos c63] at H
           have c63b0 := dT c63; clear c63
           by_cases c64 : x82_3 < (t182.length : Int)
           ·rw [if_pos c64] at H
            have c64b0 := dT c64; clear c64; obtain ⟨t186, A65, H⟩ := zbind H
            by_cases c66 : t186 = true
            ·subst c66
             rw [if_pos rfl] at H; have H' := A0_ H; clear H
             have p185 : 0 ≤ (x82_3 : Int) := zd
             have q185 : x82_3 < (t182.length : Int) := zd
             obtain ⟨ad185, A185_0, c185_0, e185, hx185_0, hl185_0, hi185_0⟩ := at_L1 (Kd.N_reads' HO_80.out).2.2 x82_3 p185 q185
             cases e185
             obtain ⟨ce185, hce185, hMe185, hcc185⟩ := Kd.N_get HO_80.out [] x82_3 p185 (by first | exact q185 | exact zd | (have e_ := (Kd.N_reads' HO_80.out).1; omega))
             obtain ⟨ua185_0, uc185_0, rfl, ul185_0, ge185_0⟩ := Kd.FK_slice_open hMe185; have hv185_0 := hcc185 0 _ rfl
             rw [Nat.add_zero, show ((Kd.slice 3 (Kd.int .i64))).sz = 1 from rfl, Nat.mul_one] at hv185_0
             replace hv185_0 := sI (hv185_0.symm.trans hx185_0)
             injection hv185_0 with hva_ hvn_ hvc_
             rw [hva_] at ge185_0; rw [hvc_] at ul185_0
             have HL185_0 := A0_ (show Kd.V (Kd.int .i64) 3 _ w.heap.size _ _ (rd_L1 t182 x82_3) from Kd.V_mk ul185_0 ge185_0)
             clear hva_ hvn_ hvc_ ge185_0 ul185_0 hcc185 hce185; have HR185_0 := A0_ hi185_0; have HC185_0 := A0_ hl185_0; clear hi185_0 hl185_0; replace p185 := eq_true p185; replace q185 := eq_true q185; obtain ⟨Ao67, co67, eo67⟩ := rS HO_162000.out; subst eo67
             go_wp2_with (first | ((with_reducible refine gC (f := 84) rfl ?_); refine zJ (some 88) Tryz.func84 #[.slice A185_0 (rd_L1 t182 x82_3).length c185_0, .func (.func 85) #[] #[.pointer (some ⟨gb161, 0, none⟩)]] ?_; (with_reducible refine (slices_ContainsFunc_int_int.calls _ _ (rd_L1 t182 x82_3) Ao67 co67 x162000_1 gb161 true _ ?side1 ?side2 ?side3 ?side4 ?side5 A65.out).mono ?_); (case side1 => repeat (first | exact (by repeat (first | (with_reducible exact HR185_0.out) | (with_reducible refine cA ?_ _) | (with_reducible refine cN ?_ _) | (with_reducible refine cD ?_) | exact HR185_0.out)) | (with_reducible refine cA ?_ _) | (with_reducible refine cN ?_ _) | (with_reducible refine cD ?_))); (case side2 => exact HC185_0.out); (case side3 => exact zD HO_162000); (case side4 => exact (rR HO_162000.out).2.1); (case side5 => exact zK_ BK161); rintro e w68 ⟨rfl, hb⟩; refine ⟨_, rfl, ?_⟩; replace HO_7 := zR HO_7 hb; replace HO_80 := A0_ (Kd.N_below (by (with_reducible repeat (first | apply Kd.N_alloc | apply Kd.N_drewN | apply Kd.N_drew)); exact HO_80.out) hb); replace HO_158000 := A0_ (Kd.V_below (by (with_reducible repeat (first | apply Kd.V_alloc | apply Kd.V_drewN | apply Kd.V_drew)); exact HO_158000.out) hb); replace HO_162000 := zR HO_162000 hb; replace HL185_0 := A0_ (Kd.V_below (by (with_reducible repeat (first | apply Kd.V_alloc | apply Kd.V_drewN | apply Kd.V_drew)); exact HL185_0.out) hb); replace BK157 := zK BK157 hb; replace BK161 := zK BK161 hb; replace HR185_0 := A0_ (cB (by repeat (first | (with_reducible exact HR185_0.out) | (with_reducible refine cA ?_ _) | (with_reducible refine cN ?_ _) | (with_reducible refine cD ?_) | exact HR185_0.out)) hb); replace HB := zB HB hb; (try clear hb)))
             go_roundg k3
             case measure => have := HK1.out; have := HK2.out; have := HK3.out; omega
             case rel => exact ⟨(x15_3), (wrap64 (x82_3 + 1)), zt, zt, H', ⟨by have := HK1.out; have := HK2.out; have := HK3.out; omega⟩, ⟨zR_ HO_7⟩, ⟨by (with_reducible repeat (first | apply Kd.N_alloc | apply Kd.N_drewN | apply Kd.N_drew)); exact HO_80.out⟩, ⟨by (with_reducible repeat (first | apply Kd.V_alloc | apply Kd.V_drewN | apply Kd.V_drew)); exact HO_158000.out⟩, ⟨zR_ HO_162000⟩, ⟨zK_ BK157⟩, ⟨zK_ BK161⟩, ⟨zB_ HB⟩⟩
            replace c66 := Bool.eq_false_iff.mpr c66; subst c66
            rw [if_neg (show ¬ (false = true) by decide)] at H
            have H' := A0_ H; clear H
            have p185 : 0 ≤ (x82_3 : Int) := zd
            have q185 : x82_3 < (t182.length : Int) := zd
            obtain ⟨ad185, A185_0, c185_0, e185, hx185_0, hl185_0, hi185_0⟩ := at_L1 (Kd.N_reads' HO_80.out).2.2 x82_3 p185 q185
            cases e185
            obtain ⟨ce185, hce185, hMe185, hcc185⟩ := Kd.N_get HO_80.out [] x82_3 p185 (by first | exact q185 | exact zd | (have e_ := (Kd.N_reads' HO_80.out).1; omega))
            obtain ⟨ua185_0, uc185_0, rfl, ul185_0, ge185_0⟩ := Kd.FK_slice_open hMe185; have hv185_0 := hcc185 0 _ rfl
            rw [Nat.add_zero, show ((Kd.slice 3 (Kd.int .i64))).sz = 1 from rfl, Nat.mul_one] at hv185_0
            replace hv185_0 := sI (hv185_0.symm.trans hx185_0)
            injection hv185_0 with hva_ hvn_ hvc_
            rw [hva_] at ge185_0; rw [hvc_] at ul185_0
            have HL185_0 := A0_ (show Kd.V (Kd.int .i64) 3 _ w.heap.size _ _ (rd_L1 t182 x82_3) from Kd.V_mk ul185_0 ge185_0)
            clear hva_ hvn_ hvc_ ge185_0 ul185_0 hcc185 hce185; have HR185_0 := A0_ hi185_0; have HC185_0 := A0_ hl185_0; clear hi185_0 hl185_0; replace p185 := eq_true p185; replace q185 := eq_true q185; obtain ⟨Ao69, co69, eo69⟩ := rS HO_162000.out; subst eo69
            go_wp2_with (first | ((with_reducible refine gC (f := 84) rfl ?_); refine zJ (some 88) Tryz.func84 #[.slice A185_0 (rd_L1 t182 x82_3).length c185_0, .func (.func 85) #[] #[.pointer (some ⟨gb161, 0, none⟩)]] ?_; (with_reducible refine (slices_ContainsFunc_int_int.calls _ _ (rd_L1 t182 x82_3) Ao69 co69 x162000_1 gb161 false _ ?side1 ?side2 ?side3 ?side4 ?side5 A65.out).mono ?_); (case side1 => repeat (first | exact (by repeat (first | (with_reducible exact HR185_0.out) | (with_reducible refine cA ?_ _) | (with_reducible refine cN ?_ _) | (with_reducible refine cD ?_) | exact HR185_0.out)) | (with_reducible refine cA ?_ _) | (with_reducible refine cN ?_ _) | (with_reducible refine cD ?_))); (case side2 => exact HC185_0.out); (case side3 => exact zD HO_162000); (case side4 => exact (rR HO_162000.out).2.1); (case side5 => exact zK_ BK161); rintro e w70 ⟨rfl, hb⟩; refine ⟨_, rfl, ?_⟩; replace HO_7 := zR HO_7 hb; replace HO_80 := A0_ (Kd.N_below (by (with_reducible repeat (first | apply Kd.N_alloc | apply Kd.N_drewN | apply Kd.N_drew)); exact HO_80.out) hb); replace HO_158000 := A0_ (Kd.V_below (by (with_reducible repeat (first | apply Kd.V_alloc | apply Kd.V_drewN | apply Kd.V_drew)); exact HO_158000.out) hb); replace HO_162000 := zR HO_162000 hb; replace HL185_0 := A0_ (Kd.V_below (by (with_reducible repeat (first | apply Kd.V_alloc | apply Kd.V_drewN | apply Kd.V_drew)); exact HL185_0.out) hb); replace BK157 := zK BK157 hb; replace BK161 := zK BK161 hb; replace HR185_0 := A0_ (cB (by repeat (first | (with_reducible exact HR185_0.out) | (with_reducible refine cA ?_ _) | (with_reducible refine cN ?_ _) | (with_reducible refine cD ?_) | exact HR185_0.out)) hb); replace HB := zB HB hb; (try clear hb)))
            go_roundg k3
            case measure => have := HK1.out; have := HK2.out; have := HK3.out; omega
            case rel => exact ⟨(wrap64 (x15_3 + 1)), (wrap64 (x82_3 + 1)), zt, zt, H', ⟨by have := HK1.out; have := HK2.out; have := HK3.out; omega⟩, ⟨zR_ HO_7⟩, ⟨by (with_reducible repeat (first | apply Kd.N_alloc | apply Kd.N_drewN | apply Kd.N_drew)); exact HO_80.out⟩, ⟨by (with_reducible repeat (first | apply Kd.V_alloc | apply Kd.V_drewN | apply Kd.V_drew)); exact HO_158000.out⟩, ⟨zR_ HO_162000⟩, ⟨zK_ BK157⟩, ⟨zK_ BK161⟩, ⟨zB_ HB⟩⟩
           rw [if_neg c64] at H
           exact absurd H (by simp)
          rw [if_neg c63] at H
          exact absurd H (by simp)
         rw [if_neg c62] at H; have c62b0 := dF c62; clear c62
         by_cases c71 : 0 ≤ (l0_0.length : Int)
         ·rw [if_pos c71] at H
          have c71b0 := eq_true c71; have c71b1 := dT c71; clear c71
          by_cases c72 : ((l0_0.length : Int) : Int).toNat ≤ 281474976710656
          ·rw [if_pos c72] at H
           have c72b0 := eq_true c72; have c72b1 := dT c72; clear c72
           obtain ⟨y187, hy187⟩ : ∃ y_ : List Bool, y_ = (List.replicate ((l0_0.length : Int) : Int).toNat false) := ⟨_, rfl⟩
           replace H : (impl_ribbon.l3 k3 l1 x7_1 x12_2 x15_3 y187 (l0_0.length : Int) 0 l0_0 l0_1 x162000_1) = some r := zH hy187 H
           have Ny187 := A0_ hy187; clear hy187; have H' := A0_ H; clear H
           go_wp2_with (first | ((with_reducible refine gD (N := 94) rfl ?_); refine Kd.R_make Kd.bool _ 4 rfl (N := 94) rfl 97 _ _ rfl (l0_0.length : Int) rfl rfl Tryz.underlying97 (.bool false) 1 info4 rfl (by decide) (by omega) false (ok := fun _ => True) (okp := fun _ => True) rfl (fun _ hk => hk) trivial (zd) (Nat.le_trans (Nat.mul_le_mul_right _ (zd : (l0_0.length : Int).toNat ≤ 281474976710656)) (by omega)) (Below.refl _ _) (Nat.le_refl _) ?_; intro v188 w73 ho74 hb hg_ hnew_; clear hg_ hnew_; (first | rw [← Ny187.out] at ho74 | (simp only [Int.reduceToNat] at ho74; rw [← Ny187.out] at ho74)); replace HO_7 := zR HO_7 hb; replace HO_80 := A0_ (Kd.N_elder' (by (with_reducible repeat (first | apply Kd.N_alloc | apply Kd.N_drewN | apply Kd.N_drew)); exact HO_80.out) (Kd.R_base ho74) hb); replace HO_158000 := A0_ (Kd.V_elder' (by (with_reducible repeat (first | apply Kd.V_alloc | apply Kd.V_drewN | apply Kd.V_drew)); exact HO_158000.out) (Kd.R_base ho74) hb); have HO189 := A0_ (rL (Kd.R_new' (Kd.R_newM (M := fun k_ => (w.heap.size ≤ k_)) ho74 (bZ (zB_ HB)) (fun k_ h_ => h_)) (rX (zR_ HO_162000))) (bZ (zB_ HB))); replace HO_162000 := A0_ (Kd.R_elder' (zR_ HO_162000) (Kd.R_base ho74) hb); replace BK157 := zK BK157 hb; replace BK161 := zK BK161 hb; replace HB := zB HB hb; clear hb ho74))
           go_loopg [15, 96] k3 (fun kq v15 v96 w' => ∃ (x15_4 : Int) (x18_4 : List Bool) (x96_4 : Int), v15 = .int .i64 x15_4 ∧ v96 = .int .i64 x96_4 ∧ Aside0 (impl_ribbon.l3 kq l1 x7_1 x12_2 x15_4 x18_4 (l0_0.length : Int) x96_4 l0_0 l0_1 x162000_1 = some r) ∧ Aside0 (kq ≤ k3) ∧ Aside0 (Kd.R (Kd.int .i64) 3 w' w.heap.size (fun k_ => (w.heap.size ≤ k_)) (.slice Ao7_ x7_1.length co7_) x7_1) ∧ Aside0 (Kd.R Kd.bool 4 w' w.heap.size (fun k_ => (w.heap.size ≤ k_) ∧ some k_ ≠ (u162000 : Value).ownBlock) v188 x18_4) ∧ Aside0 (Kd.V (Kd.int .i64) 3 w' w.heap.size (fun k_ => (P0_0_ k_ ∨ w.heap.size ≤ k_) ∧ some k_ ≠ ((.slice Ao7_ x7_1.length co7_) : Value).ownBlock ∧ some k_ ≠ (v188 : Value).ownBlock ∧ some k_ ≠ (u162000 : Value).ownBlock ∧ k_ ≠ gb157 ∧ k_ ≠ gb161) (.slice A0_0 l0_0.length c0_0) l0_0) ∧ Aside0 (Kd.R Kd.bool 4 w' w.heap.size (fun k_ => (w.heap.size ≤ k_) ∧ some k_ ≠ (v188 : Value).ownBlock) u162000 x162000_1) ∧ Aside0 (w'.heap[gb157]? = some (.cells #[(.slice A0_0 l0_0.length c0_0), (.slice A0_1 l0_1.length c0_1)] 25 (0, 0))) ∧ Aside0 (w'.heap[gb161]? = some (.cells #[u162000] 97 (0, 0))) ∧ Aside0 (Below w.heap.size w w'))
           case atStart => exact ⟨(x15_3), (y187), (0), zt, zt, H', ⟨Nat.le_refl _⟩, ⟨zR_ HO_7⟩, ⟨zmR HO189 (fun _ hk => ⟨hk.1.1, hk.2⟩)⟩, ⟨by (with_reducible repeat (first | apply Kd.V_alloc | apply Kd.V_drewN | apply Kd.V_drew)); exact Kd.V_mono HO_158000.out (fun _ hk => ⟨hk.1.1, ⟨hk.1.2.1, ⟨hk.2, ⟨hk.1.2.2.2.1, ⟨hk.1.2.2.2.2.1, hk.1.2.2.2.2.2⟩⟩⟩⟩⟩)⟩, ⟨zR_ HO_162000⟩, ⟨zK_ BK157⟩, ⟨zK_ BK161⟩, ⟨zB_ HB⟩⟩
           case round =>
            clear H'; (try clear c1); (try clear p1); (try clear q1); (try clear hx1); (try clear c2); (try clear p2); (try clear q2); (try clear hx2); (try clear hf2); (try clear c3); (try clear c3b0); (try clear c3b1); (try clear p3); (try clear q3); (try clear hx3); (try clear hf3); (try clear c4); (try clear c4b0); (try clear c4b1); (try clear c5); (try clear c6); (try clear p6); (try clear c7); (try clear c8); (try clear c12); (try clear c15); (try clear c15b0); (try clear c16); (try clear c16b0); (try clear p16); (try clear q16); (try clear hx16); (try clear c17); (try clear c17b0); (try clear p17); (try clear q17); (try clear hx17); (try clear c18); (try clear p18); (try clear q18); (try clear hx18); (try clear c19); (try clear c19b0); (try clear c20); (try clear c20b0); (try clear c21); (try clear c21b0); (try clear c22); (try clear c22b0); (try clear c23); (try clear c23b0); (try clear p24); (try clear q24); (try clear hx24); (try clear hf24); (try clear c25); (try clear c25b0); (try clear c26); (try clear c26b0); (try clear p27); (try clear q27); (try clear hx27); (try clear hf27); (try clear c28); (try clear c28b0); (try clear p29); (try clear q29); (try clear hx29); (try clear hf29); (try clear c30); (try clear c30b0); (try clear p31); (try clear q31); (try clear hx31); (try clear hf31); (try clear c32); (try clear c40); (try clear c46); (try clear c48); (try clear c53); (try clear c53b0); (try clear c54); (try clear c54b0); (try clear c55); (try clear c55b0); (try clear c56); (try clear c56b0); (try clear c56b1); (try clear c58); (try clear c60); (try clear c62); (try clear c62b0); (try clear c63); (try clear c63b0); (try clear c64); (try clear c64b0); (try clear p64); (try clear c66); (try clear c71); (try clear c71b0); (try clear c71b1); (try clear c72); (try clear c72b0); (try clear c72b1); (try clear hcz13_0); (try clear hcz33_0); (try clear hcz33_1); (try clear hcz36_0); (try clear hcz36_1); (try clear hcz47_0); (try clear hcz47_1); (try clear hcz59_0); (try clear hcz59_1); (try clear hcz7_0); (try clear hcz7_1); (try clear hfz13_0); (try clear hfz33_0); (try clear hfz33_1); (try clear hfz36_0); (try clear hfz36_1); (try clear hfz47_0); (try clear hfz47_1); (try clear hfz59_0); (try clear hfz59_1); (try clear hfz7_0); (try clear hfz7_1); (try clear hx165_0); (try clear hx169_0); (try clear hx170_0); (try clear hx181_0); (try clear hx185_0); (try clear hx24_0); (try clear hx27_0); (try clear hx29_0); (try clear hx31_0); (try clear p1); (try clear p16); (try clear p165); (try clear p169); (try clear p17); (try clear p170); (try clear p18); (try clear p181); (try clear p185); (try clear p2); (try clear p24); (try clear p27); (try clear p29); (try clear p3); (try clear p31); (try clear p6); (try clear q1); (try clear q16); (try clear q165); (try clear q169); (try clear q17); (try clear q170); (try clear q18); (try clear q181); (try clear q185); (try clear q2); (try clear q24); (try clear q27); (try clear q29); (try clear q3); (try clear q31); obtain ⟨x15_4, x18_4, x96_4, rfl, rfl, HA, HK4, HO_7, HO_18, HO_158000, HO_162000, BK157, BK161, HB⟩ := hrel
            cases gk with
            | zero => exact absurd HA.out (by simp [impl_ribbon.l3])
            | succ k4 =>
             have H := HA.out; clear HA; simp only [impl_ribbon.l3] at H
             by_cases c75 : x96_4 < (l0_0.length : Int)
             ·rw [if_pos c75] at H
              have c75b0 := dT c75; clear c75; have HC76 := A0_ H; clear H
              go_upto_region 30 with (fail)
              go_cut [109] (fun v109 wc => ∃ (kq : Nat) (x109_75 : Bool), v109 = .bool x109_75 ∧ Aside0 (impl_ribbon.j4 kq l1 x7_1 x12_2 x15_4 x18_4 x96_4 (l0_0.length : Int) x96_4 x109_75 l0_0 l0_1 x162000_1 = some r) ∧ Aside0 (kq ≤ k4) ∧ Aside0 (Kd.R (Kd.int .i64) 3 wc w.heap.size (fun k_ => (w.heap.size ≤ k_)) (.slice Ao7_ x7_1.length co7_) x7_1) ∧ Aside0 (Kd.R Kd.bool 4 wc w.heap.size (fun k_ => (w.heap.size ≤ k_) ∧ some k_ ≠ (u162000 : Value).ownBlock) v188 x18_4) ∧ Aside0 (Kd.V (Kd.int .i64) 3 wc w.heap.size (fun k_ => (P0_0_ k_ ∨ w.heap.size ≤ k_) ∧ some k_ ≠ ((.slice Ao7_ x7_1.length co7_) : Value).ownBlock ∧ some k_ ≠ (v188 : Value).ownBlock ∧ some k_ ≠ (u162000 : Value).ownBlock ∧ k_ ≠ gb157 ∧ k_ ≠ gb161) (.slice A0_0 l0_0.length c0_0) l0_0) ∧ Aside0 (Kd.R Kd.bool 4 wc w.heap.size (fun k_ => (w.heap.size ≤ k_) ∧ some k_ ≠ (v188 : Value).ownBlock) u162000 x162000_1) ∧ Aside0 (wc.heap[gb157]? = some (.cells #[(.slice A0_0 l0_0.length c0_0), (.slice A0_1 l0_1.length c0_1)] 25 (0, 0))) ∧ Aside0 (wc.heap[gb161]? = some (.cells #[u162000] 97 (0, 0))) ∧ Aside0 (Below w.heap.size w wc))
              case first =>
               have H := HC76.out; clear HC76
               by_cases c77 : 0 ≤ x96_4
               ·rw [if_pos c77] at H
                have c77b0 := dT c77; clear c77
                (first | rw [c77b0] | (simp only [i64_w, i32_w]; rw [c77b0]) | skip)
                by_cases c78 : x96_4 < (x162000_1.length : Int)
                ·rw [if_pos c78] at H
                 have c78b0 := dT c78; clear c78
                 obtain ⟨bq79, hbq79⟩ : ∃ b_ : Bool, b_ = (rdOf false x162000_1 x96_4) := ⟨_, rfl⟩
                 replace H : (if bq79 = true then (if x96_4 < (x18_4.length : Int) then (impl_ribbon.j4 k4 l1 x7_1 x12_2 x15_4 x18_4 x96_4 (l0_0.length : Int) x96_4 (rdOf false x18_4 x96_4) l0_0 l0_1 x162000_1) else (none)) else (impl_ribbon.j4 k4 l1 x7_1 x12_2 x15_4 x18_4 x96_4 (l0_0.length : Int) x96_4 true l0_0 l0_1 x162000_1)) = some r := by rw [← hbq79] at H; exact H
                 have Nbq79 := A0_ hbq79; clear hbq79
                 by_cases c80 : bq79 = true
                 ·subst c80
                  rw [if_pos rfl] at H
                  by_cases c81 : x96_4 < (x18_4.length : Int)
                  ·rw [if_pos c81] at H
                   have c81b0 := dT c81; clear c81; have H' := A0_ H; clear H; have hnb82 := NB161_157.out; have hnc82 := NB157_161.out
                   have hcz83_0 : wr.cell? ⟨gb161, 0, none⟩ = some (u162000) := (kC BK161.out 0).trans rfl
                   have hfz83_0 := kF BK161.out 0; obtain ⟨Ao84, co84, eo84⟩ := rS HO_162000.out; subst eo84
                   have p196 : 0 ≤ (x96_4 : Int) := zd
                   have q196 : x96_4 < (x162000_1.length : Int) := zd
                   obtain ⟨ad196, e196, hx196_0⟩ := Kd.at_bool (rR HO_162000.out).2.2 x96_4 p196 q196
                   (try rw [← Nbq79.out] at hx196_0)
                   cases e196
                   replace p196 := eq_true p196; replace q196 := eq_true q196; obtain ⟨Ao85, co85, eo85⟩ := rS HO_18.out; subst eo85
                   have p197 : 0 ≤ (x96_4 : Int) := zd
                   have q197 : x96_4 < (x18_4.length : Int) := zd
                   obtain ⟨ad197, e197, hx197_0⟩ := Kd.at_bool (rR HO_18.out).2.2 x96_4 p197 q197
                   (try rw [← Nbq79.out] at hx197_0)
                   cases e197
                   replace p197 := eq_true p197; replace q197 := eq_true q197
                   go_wp2
                   go_meet
                   case rel => exact ⟨_, (rdOf false x18_4 x96_4), zt, H', ⟨by have := HK1.out; have := HK2.out; have := HK3.out; have := HK4.out; first | omega | exact Nat.le_refl _⟩, ⟨zR_ HO_7⟩, ⟨zR_ HO_18⟩, ⟨by (with_reducible repeat (first | apply Kd.V_alloc | apply Kd.V_drewN | apply Kd.V_drew)); exact HO_158000.out⟩, ⟨zR_ HO_162000⟩, ⟨zK_ BK157⟩, ⟨zK_ BK161⟩, ⟨zB_ HB⟩⟩
                  rw [if_neg c81] at H
                  exact absurd H (by simp)
                 replace c80 := Bool.eq_false_iff.mpr c80; subst c80
                 rw [if_neg (show ¬ (false = true) by decide)] at H
                 have H' := A0_ H; clear H; have hnb86 := NB161_157.out; have hnc86 := NB157_161.out
                 have hcz87_0 : wr.cell? ⟨gb161, 0, none⟩ = some (u162000) := (kC BK161.out 0).trans rfl
                 have hfz87_0 := kF BK161.out 0; obtain ⟨Ao88, co88, eo88⟩ := rS HO_162000.out; subst eo88
                 have p196 : 0 ≤ (x96_4 : Int) := zd
                 have q196 : x96_4 < (x162000_1.length : Int) := zd
                 obtain ⟨ad196, e196, hx196_0⟩ := Kd.at_bool (rR HO_162000.out).2.2 x96_4 p196 q196
                 (try rw [← Nbq79.out] at hx196_0)
                 cases e196
                 replace p196 := eq_true p196; replace q196 := eq_true q196
                 go_wp2
                 go_meet
                 case rel => exact ⟨_, (true), zt, H', ⟨by have := HK1.out; have := HK2.out; have := HK3.out; have := HK4.out; first | omega | exact Nat.le_refl _⟩, ⟨zR_ HO_7⟩, ⟨zR_ HO_18⟩, ⟨by (with_reducible repeat (first | apply Kd.V_alloc | apply Kd.V_drewN | apply Kd.V_drew)); exact HO_158000.out⟩, ⟨zR_ HO_162000⟩, ⟨zK_ BK157⟩, ⟨zK_ BK161⟩, ⟨zB_ HB⟩⟩
                rw [if_neg c78] at H
                exact absurd H (by simp)
               rw [if_neg c77] at H
               exact absurd H (by simp)
              case rest =>
               clear HC76; (try clear c1); (try clear p1); (try clear q1); (try clear hx1); (try clear c2); (try clear p2); (try clear q2); (try clear hx2); (try clear hf2); (try clear c3); (try clear c3b0); (try clear c3b1); (try clear p3); (try clear q3); (try clear hx3); (try clear hf3); (try clear c4); (try clear c4b0); (try clear c4b1); (try clear c5); (try clear c6); (try clear p6); (try clear c7); (try clear q7); (try clear c8); (try clear c12); (try clear c15); (try clear c15b0); (try clear c16); (try clear c16b0); (try clear p16); (try clear q16); (try clear hx16); (try clear c17); (try clear c17b0); (try clear p17); (try clear q17); (try clear hx17); (try clear c18); (try clear p18); (try clear q18); (try clear hx18); (try clear c19); (try clear c19b0); (try clear p19); (try clear q19); (try clear hx19); (try clear c20); (try clear c20b0); (try clear c21); (try clear c21b0); (try clear c22); (try clear c22b0); (try clear c23); (try clear c23b0); (try clear p24); (try clear q24); (try clear hx24); (try clear hf24); (try clear c25); (try clear c25b0); (try clear c26); (try clear c26b0); (try clear p27); (try clear q27); (try clear hx27); (try clear hf27); (try clear c28); (try clear c28b0); (try clear p29); (try clear q29); (try clear hx29); (try clear hf29); (try clear c30); (try clear c30b0); (try clear p31); (try clear q31); (try clear hx31); (try clear hf31); (try clear c32); (try clear c40); (try clear c46); (try clear c48); (try clear c53); (try clear c53b0); (try clear c54); (try clear c54b0); (try clear c55); (try clear c55b0); (try clear c56); (try clear c56b0); (try clear c56b1); (try clear c58); (try clear c60); (try clear c62); (try clear c62b0); (try clear c63); (try clear c63b0); (try clear c64); (try clear c64b0); (try clear p64); (try clear c66); (try clear c71); (try clear c71b0); (try clear c71b1); (try clear c72); (try clear c72b0); (try clear c72b1); (try clear c75); (try clear c75b0); (try clear c77); (try clear c77b0); (try clear c78); (try clear c78b0); (try clear q79); (try clear c80); (try clear c81); (try clear c81b0); (try clear c82); (try clear c84); (try clear c86); (try clear hcz13_0); (try clear hcz33_0); (try clear hcz33_1); (try clear hcz36_0); (try clear hcz36_1); (try clear hcz47_0); (try clear hcz47_1); (try clear hcz59_0); (try clear hcz59_1); (try clear hcz7_0); (try clear hcz7_1); (try clear hcz83_0); (try clear hcz87_0); (try clear hfz13_0); (try clear hfz33_0); (try clear hfz33_1); (try clear hfz36_0); (try clear hfz36_1); (try clear hfz47_0); (try clear hfz47_1); (try clear hfz59_0); (try clear hfz59_1); (try clear hfz7_0); (try clear hfz7_1); (try clear hfz83_0); (try clear hfz87_0); (try clear hx165_0); (try clear hx169_0); (try clear hx170_0); (try clear hx181_0); (try clear hx185_0); (try clear hx196_0); (try clear hx197_0); (try clear hx24_0); (try clear hx27_0); (try clear hx29_0); (try clear hx31_0); (try clear p1); (try clear p16); (try clear p165); (try clear p169); (try clear p17); (try clear p170); (try clear p18); (try clear p181); (try clear p185); (try clear p196); (try clear p197); (try clear p2); (try clear p24); (try clear p27); (try clear p29); (try clear p3); (try clear p31); (try clear p6); (try clear p64); (try clear q1); (try clear q16); (try clear q165); (try clear q169); (try clear q17); (try clear q170); (try clear q18); (try clear q181); (try clear q185); (try clear q196); (try clear q197); (try clear q2); (try clear q24); (try clear q27); (try clear q29); (try clear q3); (try clear q31); obtain ⟨kq, x109_75, rfl, HA, HJ75, HO_7, HO_18, HO_158000, HO_162000, BK157, BK161, HB⟩ := hcut
               cases kq with
               | zero => exact absurd HA.out (by simp [impl_ribbon.j4])
               | succ kj75 =>
                have H := HA.out; clear HA; simp only [impl_ribbon.j4] at H
                by_cases c89 : x109_75 = true
                ·subst c89
                 rw [if_pos rfl] at H; have H' := A0_ H; clear H
                 go_wp2
                 go_roundg kj75
                 case measure => have := HK1.out; have := HK2.out; have := HK3.out; have := HK4.out; have := HJ75.out; omega
                 case rel => exact ⟨(x15_4), (x18_4), (wrap64 (x96_4 + 1)), zt, zt, H', ⟨by have := HK1.out; have := HK2.out; have := HK3.out; have := HK4.out; have := HJ75.out; omega⟩, ⟨zR_ HO_7⟩, ⟨zR_ HO_18⟩, ⟨by (with_reducible repeat (first | apply Kd.V_alloc | apply Kd.V_drewN | apply Kd.V_drew)); exact HO_158000.out⟩, ⟨zR_ HO_162000⟩, ⟨zK_ BK157⟩, ⟨zK_ BK161⟩, ⟨zB_ HB⟩⟩
                replace c89 := Bool.eq_false_iff.mpr c89; subst c89
                rw [if_neg (show ¬ (false = true) by decide)] at H
                have H' := A0_ H; clear H
                go_wp2
                go_loopg [20] kj75 (fun kq v20 w' => ∃ (x18_6 : List Bool) (x20_6 : Int), v20 = .int .i64 x20_6 ∧ Aside0 (impl_ribbon.l4 kq l1 x7_1 x12_2 (wrap64 (x15_4 + 1)) x18_6 x20_6 (l0_0.length : Int) x96_4 l0_0 l0_1 x162000_1 = some r) ∧ Aside0 (kq ≤ kj75) ∧ Aside0 (Kd.R (Kd.int .i64) 3 w' w.heap.size (fun k_ => (w.heap.size ≤ k_)) (.slice Ao7_ x7_1.length co7_) x7_1) ∧ Aside0 (Kd.R Kd.bool 4 w' w.heap.size (fun k_ => (w.heap.size ≤ k_) ∧ some k_ ≠ (u162000 : Value).ownBlock) v188 x18_6) ∧ Aside0 (Kd.V (Kd.int .i64) 3 w' w.heap.size (fun k_ => (P0_0_ k_ ∨ w.heap.size ≤ k_) ∧ some k_ ≠ ((.slice Ao7_ x7_1.length co7_) : Value).ownBlock ∧ some k_ ≠ (v188 : Value).ownBlock ∧ some k_ ≠ (u162000 : Value).ownBlock ∧ k_ ≠ gb157 ∧ k_ ≠ gb161) (.slice A0_0 l0_0.length c0_0) l0_0) ∧ Aside0 (Kd.R Kd.bool 4 w' w.heap.size (fun k_ => (w.heap.size ≤ k_) ∧ some k_ ≠ (v188 : Value).ownBlock) u162000 x162000_1) ∧ Aside0 (w'.heap[gb157]? = some (.cells #[(.slice A0_0 l0_0.length c0_0), (.slice A0_1 l0_1.length c0_1)] 25 (0, 0))) ∧ Aside0 (w'.heap[gb161]? = some (.cells #[u162000] 97 (0, 0))) ∧ Aside0 (Below w.heap.size w w'))
                case atStart => exact ⟨(x18_4), (x96_4), zt, H', ⟨Nat.le_refl _⟩, ⟨zR_ HO_7⟩, ⟨zR_ HO_18⟩, ⟨by (with_reducible repeat (first | apply Kd.V_alloc | apply Kd.V_drewN | apply Kd.V_drew)); exact HO_158000.out⟩, ⟨zR_ HO_162000⟩, ⟨zK_ BK157⟩, ⟨zK_ BK161⟩, ⟨zB_ HB⟩⟩
                case round =>
                 clear H'; (try clear c1); (try clear p1); (try clear q1); (try clear hx1); (try clear c2); (try clear p2); (try clear q2); (try clear hx2); (try clear hf2); (try clear c3); (try clear c3b0); (try clear c3b1); (try clear p3); (try clear q3); (try clear hx3); (try clear hf3); (try clear c4); (try clear c4b0); (try clear c4b1); (try clear c5); (try clear c6); (try clear p6); (try clear c7); (try clear q7); (try clear c8); (try clear c12); (try clear c15); (try clear c15b0); (try clear c16); (try clear c16b0); (try clear p16); (try clear q16); (try clear hx16); (try clear c17); (try clear c17b0); (try clear p17); (try clear q17); (try clear hx17); (try clear c18); (try clear p18); (try clear q18); (try clear hx18); (try clear c19); (try clear c19b0); (try clear p19); (try clear q19); (try clear hx19); (try clear c20); (try clear c20b0); (try clear c21); (try clear c21b0); (try clear c22); (try clear c22b0); (try clear c23); (try clear c23b0); (try clear p24); (try clear q24); (try clear hx24); (try clear hf24); (try clear c25); (try clear c25b0); (try clear c26); (try clear c26b0); (try clear p27); (try clear q27); (try clear hx27); (try clear hf27); (try clear c28); (try clear c28b0); (try clear p29); (try clear q29); (try clear hx29); (try clear hf29); (try clear c30); (try clear c30b0); (try clear p31); (try clear q31); (try clear hx31); (try clear hf31); (try clear c32); (try clear c40); (try clear c46); (try clear c48); (try clear c53); (try clear c53b0); (try clear c54); (try clear c54b0); (try clear c55); (try clear c55b0); (try clear c56); (try clear c56b0); (try clear c56b1); (try clear c58); (try clear c60); (try clear c62); (try clear c62b0); (try clear c63); (try clear c63b0); (try clear c64); (try clear c64b0); (try clear p64); (try clear c66); (try clear c71); (try clear c71b0); (try clear c71b1); (try clear c72); (try clear c72b0); (try clear c72b1); (try clear c75); (try clear c75b0); (try clear c77); (try clear c77b0); (try clear c78); (try clear c78b0); (try clear q79); (try clear c80); (try clear c81); (try clear c81b0); (try clear c82); (try clear c84); (try clear c86); (try clear c89); (try clear hcz13_0); (try clear hcz33_0); (try clear hcz33_1); (try clear hcz36_0); (try clear hcz36_1); (try clear hcz47_0); (try clear hcz47_1); (try clear hcz59_0); (try clear hcz59_1); (try clear hcz7_0); (try clear hcz7_1); (try clear hcz83_0); (try clear hcz87_0); (try clear hfz13_0); (try clear hfz33_0); (try clear hfz33_1); (try clear hfz36_0); (try clear hfz36_1); (try clear hfz47_0); (try clear hfz47_1); (try clear hfz59_0); (try clear hfz59_1); (try clear hfz7_0); (try clear hfz7_1); (try clear hfz83_0); (try clear hfz87_0); (try clear hx165_0); (try clear hx169_0); (try clear hx170_0); (try clear hx181_0); (try clear hx185_0); (try clear hx196_0); (try clear hx197_0); (try clear hx24_0); (try clear hx27_0); (try clear hx29_0); (try clear hx31_0); (try clear p1); (try clear p16); (try clear p165); (try clear p169); (try clear p17); (try clear p170); (try clear p18); (try clear p181); (try clear p185); (try clear p19); (try clear p196); (try clear p197); (try clear p2); (try clear p24); (try clear p27); (try clear p29); (try clear p3); (try clear p31); (try clear p6); (try clear p64); (try clear q1); (try clear q16); (try clear q165); (try clear q169); (try clear q17); (try clear q170); (try clear q18); (try clear q181); (try clear q185); (try clear q19); (try clear q196); (try clear q197); (try clear q2); (try clear q24); (try clear q27); (try clear q29); (try clear q3); (try clear q31); (try clear q7); (try clear q79); obtain ⟨x18_6, x20_6, rfl, HA, HK6, HO_7, HO_18, HO_158000, HO_162000, BK157, BK161, HB⟩ := hrel
                 cases gk with
                 | zero => exact absurd HA.out (by simp [impl_ribbon.l4])
                 | succ k6 =>
                  have H := HA.out; clear HA; simp only [impl_ribbon.l4] at H
                  by_cases c90 : 0 ≤ x20_6
                  ·rw [if_pos c90] at H
                   have c90b0 := dT c90; clear c90
                   by_cases c91 : x20_6 < (x18_6.length : Int)
                   ·rw [if_pos c91] at H
                    have c91b0 := dT c91; clear c91
                    obtain ⟨bq92, hbq92⟩ : ∃ b_ : Bool, b_ = (rdOf false x18_6 x20_6) := ⟨_, rfl⟩
                    replace H : (if bq92 = true then (impl_ribbon.l3 k6 l1 x7_1 x12_2 (wrap64 (x15_4 + 1)) x18_6 (l0_0.length : Int) (wrap64 (x96_4 + 1)) l0_0 l0_1 x162000_1) else (if x20_6 < (x7_1.length : Int) then (if 0 ≤ (rd x7_1 x20_6) then (if (rd x7_1 x20_6) < (l0_0.length : Int) then (impl_ribbon.l5 k6 l1 x7_1 x12_2 (wrap64 (x15_4 + 1)) (x18_6.set (x20_6 : Int).toNat true) (rd l0_0 (rd x7_1 x20_6)) (l0_0.length : Int) x96_4 l0_0 l0_1 x162000_1) else (none)) else (none)) else (none))) = some r := by rw [← hbq92] at H; exact H
                    have Nbq92 := A0_ hbq92; clear hbq92
                    by_cases c93 : bq92 = true
                    ·subst c93
                     rw [if_pos rfl] at H; have H' := A0_ H; clear H; obtain ⟨Ao94, co94, eo94⟩ := rS HO_18.out; subst eo94
                     have p198 : 0 ≤ (x20_6 : Int) := zd
                     have q198 : x20_6 < (x18_6.length : Int) := zd
                     obtain ⟨ad198, e198, hx198_0⟩ := Kd.at_bool (rR HO_18.out).2.2 x20_6 p198 q198
                     (try rw [← Nbq92.out] at hx198_0)
                     cases e198
                     replace p198 := eq_true p198; replace q198 := eq_true q198
                     go_wp2
                     go_roundg k6
                     case measure => have := HK1.out; have := HK2.out; have := HK3.out; have := HK4.out; have := HJ75.out; have := HK6.out; omega
                     case rel => exact ⟨((wrap64 (x15_4 + 1))), (x18_6), (wrap64 (x96_4 + 1)), zt, zt, H', ⟨by have := HK1.out; have := HK2.out; have := HK3.out; have := HK4.out; have := HJ75.out; have := HK6.out; omega⟩, ⟨zR_ HO_7⟩, ⟨zR_ HO_18⟩, ⟨by (with_reducible repeat (first | apply Kd.V_alloc | apply Kd.V_drewN | apply Kd.V_drew)); exact HO_158000.out⟩, ⟨zR_ HO_162000⟩, ⟨zK_ BK157⟩, ⟨zK_ BK161⟩, ⟨zB_ HB⟩⟩
                    replace c93 := Bool.eq_false_iff.mpr c93; subst c93
                    rw [if_neg (show ¬ (false = true) by decide)] at H
                    obtain ⟨y199, hy199⟩ : ∃ y_ : List Bool, y_ = (x18_6.set (x20_6 : Int).toNat true) := ⟨_, rfl⟩
                    replace H : (if x20_6 < (x7_1.length : Int) then (if 0 ≤ (rd x7_1 x20_6) then (if (rd x7_1 x20_6) < (l0_0.length : Int) then (impl_ribbon.l5 k6 l1 x7_1 x12_2 (wrap64 (x15_4 + 1)) y199 (rd l0_0 (rd x7_1 x20_6)) (l0_0.length : Int) x96_4 l0_0 l0_1 x162000_1) else (none)) else (none)) else (none)) = some r := zH hy199 H
                    have Ny199 := A0_ hy199; clear hy199
                    by_cases c96 : x20_6 < (x7_1.length : Int)
                    ·rw [if_pos c96] at H
                     have c96b0 := dT c96; clear c96
                     by_cases c97 : 0 ≤ (rd x7_1 x20_6)
                     ·rw [if_pos c97] at H
                      have c97b0 := dT c97; clear c97
                      by_cases c98 : (rd x7_1 x20_6) < (l0_0.length : Int)
                      ·rw [if_pos c98] at H
                       have c98b0 := dT c98; clear c98; have H' := A0_ H; clear H; obtain ⟨Ao99, co99, eo99⟩ := rS HO_18.out; subst eo99
                       have p198 : 0 ≤ (x20_6 : Int) := zd
                       have q198 : x20_6 < (x18_6.length : Int) := zd
                       obtain ⟨ad198, e198, hx198_0⟩ := Kd.at_bool (rR HO_18.out).2.2 x20_6 p198 q198
                       (try rw [← Nbq92.out] at hx198_0)
                       cases e198
                       replace p198 := eq_true p198; replace q198 := eq_true q198
                       have p95 : 0 ≤ (x20_6 : Int) := zd
                       have q95 : (x20_6 : Int) < ((x18_6.length : Int) : Int) := zd
                       obtain ⟨go95, co95, eo95, gb95, gl95, cl95, HG95⟩ := Kd.R_form HO_18.out (by omega)
                       (first | cases eo95 | (injection eo95 with ea_ en_ ec_; (first | subst ea_ | (injection ea_ with ea_; subst ea_)); subst ec_; clear en_))
                       have GB95 := A0_ gb95; have GG95 := A0_ HG95; clear gb95 gl95 HG95
                       (first | simp only [add_plain] at hx198_0 | skip)
                       obtain ⟨hx95_0, hf95_0⟩ := Kd.R_celln false HO_18.out (x20_6 : Int) p95 q95
                       replace p95 := eq_true p95; replace q95 := eq_true q95
                       have HP100 := Kd.R_putg HO_18.out (x20_6 : Int) true
                       try go_wp2_with (first | ((with_reducible refine gS (t := 4) (p := 120) rfl ?_); refine store_event (t := 4) (p := 120) (v := ?vo_w101) (w1 := (wr.setCell ⟨go95, (x20_6 : Int).toNat, none⟩ (.bool true))) ?hg ?ho ?hn ?hr ?_; (case ho => rfl); (case hg => rfl); (case hn => rfl); (case hr => first | (go_simp; done) | (go_simp; rfl)); intro w101 hw; have hg : wr.grownBy w101 (some go95) := (by rw [hw]; exact HP100.2); have hp_ : Kd.R Kd.bool 4 w101 w.heap.size (fun k_ => (w.heap.size ≤ k_) ∧ some k_ ≠ (u162000 : Value).ownBlock) (.slice (some ⟨go95, 0, none⟩) x18_6.length co99) y199 := (by rw [hw, Ny199.out]; exact HP100.1); clear HP100; replace HO_7 := A0_ (Kd.R_over' (v := (.slice (some ⟨go95, 0, none⟩) x18_6.length co99)) (zR_ HO_7) (Kd.R_typed HO_18.out) (by decide) hg); replace HO_158000 := A0_ (Kd.V_afterv (v := (.slice (some ⟨go95, 0, none⟩) x18_6.length co99)) (v1 := (.slice (some ⟨go95, 0, none⟩) x18_6.length co99)) (ok := (fun k_ => (P0_0_ k_ ∨ w.heap.size ≤ k_) ∧ some k_ ≠ ((.slice Ao7_ x7_1.length co7_) : Value).ownBlock ∧ some k_ ≠ (u162000 : Value).ownBlock ∧ k_ ≠ gb157 ∧ k_ ≠ gb161)) (by (with_reducible repeat (first | apply Kd.V_alloc | apply Kd.V_drewN | apply Kd.V_drew)); exact Kd.V_mono HO_158000.out (fun _ hk => ⟨⟨hk.1, ⟨hk.2.1, ⟨hk.2.2.2.1, ⟨hk.2.2.2.2.1, hk.2.2.2.2.2⟩⟩⟩⟩, hk.2.2.1⟩)) hg (.inl rfl)); replace HO_162000 := A0_ (Kd.R_after (v := (.slice (some ⟨go95, 0, none⟩) x18_6.length co99)) (v1 := (.slice (some ⟨go95, 0, none⟩) x18_6.length co99)) (ok := (fun k_ => (w.heap.size ≤ k_))) (zR_ HO_162000) hg (.inl rfl)); replace BK157 := A0_ (blk_grown (g := gb157) (o := .cells #[.slice A0_0 l0_0.length c0_0, .slice A0_1 l0_1.length c0_1] 25 (0, 0)) (zK_ BK157) hg (Kd.R_ne HO_18.out BK157.out (by decide))); replace BK161 := A0_ (blk_grown (g := gb161) (o := .cells #[u162000] 97 (0, 0)) (zK_ BK161) hg (Kd.R_ne HO_18.out BK161.out (by decide))); replace HO_18 := A0_ (hp_); replace HB := A0_ ((by rw [hw]; exact bS (HB.out) GB95.out : Below w.heap.size w w101)); clear hg hw hp_))
                       replace HO_7 := A0_ (rD HO_7.out)
                       replace HO_18 := A0_ (rD HO_18.out)
                       replace HO_158000 := A0_ (Kd.V_drew HO_158000.out)
                       replace HO_162000 := A0_ (rD HO_162000.out)
                       replace BK157 := A0_ (kD BK157.out)
                       replace BK161 := A0_ (kD BK161.out)
                       replace HB := A0_ (bD HB.out)
                       obtain ⟨Ao103, co103, eo103⟩ := rS HO_7.out
                       (first | subst eo103 | (injection eo103 with f1_ f2_ f3_; have f4_ := f1_.symm; have f5_ := f3_.symm; clear f1_ f2_ f3_; subst f4_; subst f5_))
                       have p200 : 0 ≤ (x20_6 : Int) := zd
                       have q200 : x20_6 < (x7_1.length : Int) := zd
                       obtain ⟨ad200, e200, hx200_0⟩ := tI (rR HO_7.out).2.2 x20_6 p200 q200
                       cases e200
                       replace p200 := eq_true p200; replace q200 := eq_true q200
                       have p201 : 0 ≤ ((rd x7_1 x20_6) : Int) := zd
                       have q201 : (rd x7_1 x20_6) < (l0_0.length : Int) := zd
                       obtain ⟨ad201, e201, hx201_0⟩ := tI (Kd.V_reads' HO_158000.out).2.2 (rd x7_1 x20_6) p201 q201
                       cases e201
                       replace p201 := eq_true p201; replace q201 := eq_true q201
                       refine start_ (n := 9) (S := fun w' => w'.cell? ⟨gb157, 0, none⟩ = some (.slice (some ad201) l0_0.length c0_0) ∧ w'.cell? ⟨gb157, 1, none⟩ = some (.slice A0_1 l0_1.length c0_1) ∧ w'.cell? (ad200.add (x20_6).toNat) = some (.int .i64 (rd x7_1 x20_6)) ∧ w'.cell? (ad201.add ((rd x7_1 x20_6)).toNat) = some (.int .i64 (rd l0_0 (rd x7_1 x20_6)))) (ds := []) #[false, false, false, false, false, false, false, false, false] (by kernel_rfl) rfl rfl ⟨(kC BK157.out 0).trans rfl, (kC BK157.out 1).trans rfl, hx200_0, hx201_0⟩ (fun hHeld => ?_); refine with_tabW impl_ribbon.tab35 impl_ribbon.bits35 (fun HT_ HW_ => ?_)
                       generalize w101.drew = w102 at HO_7 HO_18 HO_158000 HO_162000 BK157 BK161 HB hx200_0 hx201_0 hHeld ⊢
                       refine zP 0 (some 121) #[true,false,false,false,false,false,false,false,false] ?_
                       refine zP 2 (some 123) #[true,false,true,false,false,false,false,false,false] ?_
                       refine zP 3 (some 124) #[true,false,true,true,false,false,false,false,false] ?_
                       refine zP 4 (some 125) #[true,false,true,true,true,false,false,false,false] ?_
                       refine take_ (i := 1) (N := some 122) (v := ?_) (a' := ?_) #[true, true, true, true, true, false, false, false, false] rfl rfl (take_ofW HT_.out HW_.out (by kernel_rfl)) (fun _ _ _ h => h) (Or.inl ⟨by rfl, ?_⟩) hHeld ?_ ?_
                       rotate_left
                       ·rintro w' ⟨s0, s1, s2, s3⟩
                        go_simp
                        with_reducible rfl
                       rotate_left
                       ·simp only [Act.put, List.setIfInBounds_toArray, List.set_cons_zero, List.set_cons_succ, i64_w, i32_w]
                        rfl
                       refine take_ (i := 5) (N := some 126) (v := ?_) (a' := ?_) #[true, true, true, true, true, true, false, false, false] rfl rfl (take_ofW HT_.out HW_.out (by kernel_rfl)) (fun _ _ _ h => h) (Or.inl ⟨by rfl, ?_⟩) hHeld ?_ ?_
                       rotate_left
                       ·rintro w' ⟨s0, s1, s2, s3⟩
                        go_simp
                        with_reducible rfl
                       rotate_left
                       ·simp only [Act.put, List.setIfInBounds_toArray, List.set_cons_zero, List.set_cons_succ, i64_w, i32_w]
                        rfl
                       refine zP 6 (some 127) #[true,true,true,true,true,true,true,false,false] ?_
                       refine take_ (i := 7) (N := some 128) (v := ?_) (a' := ?_) #[true, true, true, true, true, true, true, true, false] rfl rfl (take_ofW HT_.out HW_.out (by kernel_rfl)) (fun _ _ _ h => h) (Or.inl ⟨by rfl, ?_⟩) hHeld ?_ ?_
                       rotate_left
                       ·rintro w' ⟨s0, s1, s2, s3⟩
                        go_simp
                        with_reducible rfl
                       rotate_left
                       ·simp only [Act.put, List.setIfInBounds_toArray, List.set_cons_zero, List.set_cons_succ, i64_w, i32_w]
                        rfl
                       refine zP 8 (some 20) #[true,true,true,true,true,true,true,true,true] ?_
                       refine done_ (done_of HT_.out (by kernel_rfl)) ?_
                       try go_wp2
                       (try generalize Value.pointer (some (ad198.add (x20_6 : Int).toNat)) = pz_)
                       (try generalize Value.pointer (some (ad200.add (x20_6 : Int).toNat)) = pz_)
                       go_loopg [20] k6 (fun kq v20 w' => ∃ (x20_7 : Int), v20 = .int .i64 x20_7 ∧ Aside0 (impl_ribbon.l5 kq l1 x7_1 x12_2 (wrap64 (x15_4 + 1)) y199 x20_7 (l0_0.length : Int) x96_4 l0_0 l0_1 x162000_1 = some r) ∧ Aside0 (kq ≤ k6) ∧ Aside0 (Kd.R (Kd.int .i64) 3 w' w.heap.size (fun k_ => (w.heap.size ≤ k_)) (.slice (some ad200) x7_1.length co103) x7_1) ∧ Aside0 (Kd.R Kd.bool 4 w' w.heap.size (fun k_ => (w.heap.size ≤ k_) ∧ some k_ ≠ (u162000 : Value).ownBlock) (.slice (some ⟨go95, 0, none⟩) x18_6.length co99) y199) ∧ Aside0 (Kd.V (Kd.int .i64) 3 w' w.heap.size (fun k_ => (P0_0_ k_ ∨ w.heap.size ≤ k_) ∧ some k_ ≠ ((.slice (some ad200) x7_1.length co103) : Value).ownBlock ∧ some k_ ≠ ((.slice (some ⟨go95, 0, none⟩) x18_6.length co99) : Value).ownBlock ∧ some k_ ≠ (u162000 : Value).ownBlock ∧ k_ ≠ gb157 ∧ k_ ≠ gb161) (.slice (some ad201) l0_0.length c0_0) l0_0) ∧ Aside0 (Kd.R Kd.bool 4 w' w.heap.size (fun k_ => (w.heap.size ≤ k_) ∧ some k_ ≠ ((.slice (some ⟨go95, 0, none⟩) x18_6.length co99) : Value).ownBlock) u162000 x162000_1) ∧ Aside0 (w'.heap[gb157]? = some (.cells #[(.slice (some ad201) l0_0.length c0_0), (.slice A0_1 l0_1.length c0_1)] 25 (0, 0))) ∧ Aside0 (w'.heap[gb161]? = some (.cells #[u162000] 97 (0, 0))) ∧ Aside0 (Below w.heap.size w w'))
                       case atStart => exact ⟨(rd l0_0 (rd x7_1 x20_6)), zt, H', ⟨Nat.le_refl _⟩, ⟨zR_ HO_7⟩, ⟨zR_ HO_18⟩, ⟨by (with_reducible repeat (first | apply Kd.V_alloc | apply Kd.V_drewN | apply Kd.V_drew)); exact Kd.V_mono HO_158000.out (fun _ hk => ⟨hk.1.1, ⟨hk.1.2.1, ⟨hk.2, ⟨hk.1.2.2.1, ⟨hk.1.2.2.2.1, hk.1.2.2.2.2⟩⟩⟩⟩⟩)⟩, ⟨zR_ HO_162000⟩, ⟨zK_ BK157⟩, ⟨zK_ BK161⟩, ⟨zB_ HB⟩⟩
                       case round =>
                        clear H'; (try clear c1); (try clear p1); (try clear q1); (try clear hx1); (try clear c2); (try clear p2); (try clear q2); (try clear hx2); (try clear hf2); (try clear c3); (try clear c3b0); (try clear c3b1); (try clear p3); (try clear q3); (try clear hx3); (try clear hf3); (try clear c4); (try clear c4b0); (try clear c4b1); (try clear c5); (try clear c6); (try clear p6); (try clear c7); (try clear q7); (try clear c8); (try clear c9); (try clear p9); (try clear q9); (try clear hx9); (try clear hf9); (try clear c12); (try clear c15); (try clear c15b0); (try clear c16); (try clear c16b0); (try clear p16); (try clear q16); (try clear hx16); (try clear c17); (try clear c17b0); (try clear p17); (try clear q17); (try clear hx17); (try clear c18); (try clear p18); (try clear q18); (try clear hx18); (try clear c19); (try clear c19b0); (try clear p19); (try clear q19); (try clear hx19); (try clear c20); (try clear c20b0); (try clear p20); (try clear q20); (try clear hx20); (try clear c21); (try clear c21b0); (try clear c22); (try clear c22b0); (try clear c23); (try clear c23b0); (try clear p24); (try clear q24); (try clear hx24); (try clear hf24); (try clear c25); (try clear c25b0); (try clear c26); (try clear c26b0); (try clear p27); (try clear q27); (try clear hx27); (try clear hf27); (try clear c28); (try clear c28b0); (try clear p29); (try clear q29); (try clear hx29); (try clear hf29); (try clear c30); (try clear c30b0); (try clear p31); (try clear q31); (try clear hx31); (try clear hf31); (try clear c32); (try clear c40); (try clear c46); (try clear c48); (try clear c53); (try clear c53b0); (try clear c54); (try clear c54b0); (try clear c55); (try clear c55b0); (try clear c56); (try clear c56b0); (try clear c56b1); (try clear c58); (try clear c60); (try clear c62); (try clear c62b0); (try clear c63); (try clear c63b0); (try clear c64); (try clear c64b0); (try clear p64); (try clear c66); (try clear c71); (try clear c71b0); (try clear c71b1); (try clear c72); (try clear c72b0); (try clear c72b1); (try clear c75); (try clear c75b0); (try clear c77); (try clear c77b0); (try clear c78); (try clear c78b0); (try clear q79); (try clear c80); (try clear c81); (try clear c81b0); (try clear c82); (try clear c84); (try clear c86); (try clear c89); (try clear c90); (try clear c90b0); (try clear c91); (try clear c91b0); (try clear q92); (try clear c93); (try clear p95); (try clear q95); (try clear hx95); (try clear hf95); (try clear c96); (try clear c96b0); (try clear c97); (try clear c97b0); (try clear c98); (try clear c98b0); (try clear hcz13_0); (try clear hcz33_0); (try clear hcz33_1); (try clear hcz36_0); (try clear hcz36_1); (try clear hcz47_0); (try clear hcz47_1); (try clear hcz59_0); (try clear hcz59_1); (try clear hcz7_0); (try clear hcz7_1); (try clear hcz83_0); (try clear hcz87_0); (try clear hfz13_0); (try clear hfz33_0); (try clear hfz33_1); (try clear hfz36_0); (try clear hfz36_1); (try clear hfz47_0); (try clear hfz47_1); (try clear hfz59_0); (try clear hfz59_1); (try clear hfz7_0); (try clear hfz7_1); (try clear hfz83_0); (try clear hfz87_0); (try clear hx165_0); (try clear hx169_0); (try clear hx170_0); (try clear hx181_0); (try clear hx185_0); (try clear hx196_0); (try clear hx197_0); (try clear hx198_0); (try clear hx200_0); (try clear hx201_0); (try clear hx24_0); (try clear hx27_0); (try clear hx29_0); (try clear hx31_0); (try clear hx95_0); (try clear p1); (try clear p16); (try clear p165); (try clear p169); (try clear p17); (try clear p170); (try clear p18); (try clear p181); (try clear p185); (try clear p19); (try clear p196); (try clear p197); (try clear p198); (try clear p2); (try clear p200); (try clear p201); (try clear p24); (try clear p27); (try clear p29); (try clear p3); (try clear p31); (try clear p6); (try clear p64); (try clear p95); (try clear q1); (try clear q16); (try clear q165); (try clear q169); (try clear q17); (try clear q170); (try clear q18); (try clear q181); (try clear q185); (try clear q19); (try clear q196); (try clear q197); (try clear q198); (try clear q2); (try clear q200); (try clear q201); (try clear q24); (try clear q27); (try clear q29); (try clear q3); (try clear q31); (try clear q7); (try clear q79); (try clear q95); obtain ⟨x20_7, rfl, HA, HK7, HO_7, HO_18, HO_158000, HO_162000, BK157, BK161, HB⟩ := hrel; have hl18_7 := (rR HO_18.out).1; rw [hl18_7] at HO_18; (try simp only [hl18_7]); (try simp only [hl18_7] at BK157); (try simp only [hl18_7] at BK161); (try simp only [hl18_7] at HO_7); (try simp only [hl18_7] at HO_158000); (try simp only [hl18_7] at HO_162000)
                        cases gk with
                        | zero => exact absurd HA.out (by simp [impl_ribbon.l5])
                        | succ k7 =>
                         have H := HA.out; clear HA; simp only [impl_ribbon.l5] at H
                         by_cases c104 : 0 ≤ x20_7
                         ·rw [if_pos c104] at H
                          have c104b0 := dT c104; clear c104
                          by_cases c105 : x20_7 < (x162000_1.length : Int)
                          ·rw [if_pos c105] at H
                           have c105b0 := dT c105; (try simp only [hl18_7] at c105b0); clear c105
                           obtain ⟨bq106, hbq106⟩ : ∃ b_ : Bool, b_ = (rdOf false x162000_1 x20_7) := ⟨_, rfl⟩
                           replace H : (if bq106 = true then (impl_ribbon.l4 k7 l1 x7_1 x12_2 (wrap64 (x15_4 + 1)) y199 x20_7 (l0_0.length : Int) x96_4 l0_0 l0_1 x162000_1) else (if x20_7 < (l0_0.length : Int) then (impl_ribbon.l5 k7 l1 x7_1 x12_2 (wrap64 (x15_4 + 1)) y199 (rd l0_0 x20_7) (l0_0.length : Int) x96_4 l0_0 l0_1 x162000_1) else (none))) = some r := by rw [← hbq106] at H; exact H
                           have Nbq106 := A0_ hbq106; clear hbq106
                           by_cases c107 : bq106 = true
                           ·subst c107
                            rw [if_pos rfl] at H; have H' := A0_ H; clear H; have hnb108 := NB161_157.out; have hnc108 := NB157_161.out
                            have hcz109_0 : wr.cell? ⟨gb161, 0, none⟩ = some (u162000) := (kC BK161.out 0).trans rfl
                            have hfz109_0 := kF BK161.out 0; obtain ⟨Ao110, co110, eo110⟩ := rS HO_162000.out; subst eo110
                            have p202 : 0 ≤ (x20_7 : Int) := zd
                            have q202 : x20_7 < (x162000_1.length : Int) := zd
                            obtain ⟨ad202, e202, hx202_0⟩ := Kd.at_bool (rR HO_162000.out).2.2 x20_7 p202 q202
                            (try rw [← Nbq92.out] at hx202_0)
                            (try rw [← Nbq106.out] at hx202_0)
                            cases e202
                            replace p202 := eq_true p202; replace q202 := eq_true q202
                            go_wp2
                            (try simp only [← hl18_7])
                            go_roundg k7
                            case measure => have := HK1.out; have := HK2.out; have := HK3.out; have := HK4.out; have := HJ75.out; have := HK6.out; have := HK7.out; omega
                            case rel => exact ⟨(y199), (x20_7), zt, H', ⟨by have := HK1.out; have := HK2.out; have := HK3.out; have := HK4.out; have := HJ75.out; have := HK6.out; have := HK7.out; omega⟩, ⟨by (try simp only [hl18_7]); (with_reducible repeat (first | apply rA | apply rN | apply rD)); exact HO_7.out⟩, ⟨by (try simp only [hl18_7]); (with_reducible repeat (first | apply rA | apply rN | apply rD)); exact HO_18.out⟩, ⟨by (try simp only [hl18_7]); (with_reducible repeat (first | apply Kd.V_alloc | apply Kd.V_drewN | apply Kd.V_drew)); exact HO_158000.out⟩, ⟨by (try simp only [hl18_7]); (with_reducible repeat (first | apply rA | apply rN | apply rD)); exact HO_162000.out⟩, ⟨by (try simp only [hl18_7]); (with_reducible repeat (first | refine kN ?_ _ | refine kD ?_ | refine kA ?_ _)); exact BK157.out⟩, ⟨by (try simp only [hl18_7]); (with_reducible repeat (first | refine kN ?_ _ | refine kD ?_ | refine kA ?_ _)); exact BK161.out⟩, ⟨zB_ HB⟩⟩
                           replace c107 := Bool.eq_false_iff.mpr c107; subst c107
                           rw [if_neg (show ¬ (false = true) by decide)] at H
                           by_cases c111 : x20_7 < (l0_0.length : Int)
                           ·rw [if_pos c111] at H
                            have c111b0 := dT c111; (try simp only [hl18_7] at c111b0); clear c111; have H' := A0_ H; clear H; have hnb112 := NB161_157.out; have hnc112 := NB157_161.out
                            have hcz113_0 : wr.cell? ⟨gb161, 0, none⟩ = some (u162000) := (kC BK161.out 0).trans rfl
                            have hfz113_0 := kF BK161.out 0; obtain ⟨Ao114, co114, eo114⟩ := rS HO_162000.out; subst eo114
                            have p202 : 0 ≤ (x20_7 : Int) := zd
                            have q202 : x20_7 < (x162000_1.length : Int) := zd
                            obtain ⟨ad202, e202, hx202_0⟩ := Kd.at_bool (rR HO_162000.out).2.2 x20_7 p202 q202
                            (try rw [← Nbq92.out] at hx202_0)
                            (try rw [← Nbq106.out] at hx202_0)
                            cases e202
                            replace p202 := eq_true p202; replace q202 := eq_true q202; have hcz115_0 := zc0 BK157; have hcz115_1 := zc1 BK157; have hfz115_0 := kF BK157.out 0; have hfz115_1 := kF BK157.out 1
                            have p203 : 0 ≤ (x20_7 : Int) := zd
                            have q203 : x20_7 < (l0_0.length : Int) := zd
                            obtain ⟨ad203, e203, hx203_0⟩ := tI (Kd.V_reads' HO_158000.out).2.2 x20_7 p203 q203
                            obtain rfl : ad201 = ad203 := (by injection e203)
                            replace p203 := eq_true p203; replace q203 := eq_true q203
                            go_wp2
                            (try simp only [← hl18_7])
                            go_roundg k7
                            case measure => have := HK1.out; have := HK2.out; have := HK3.out; have := HK4.out; have := HJ75.out; have := HK6.out; have := HK7.out; omega
                            case rel => exact ⟨(rd l0_0 x20_7), zt, H', ⟨by have := HK1.out; have := HK2.out; have := HK3.out; have := HK4.out; have := HJ75.out; have := HK6.out; have := HK7.out; omega⟩, ⟨by (try simp only [hl18_7]); (with_reducible repeat (first | apply rA | apply rN | apply rD)); exact HO_7.out⟩, ⟨by (try simp only [hl18_7]); (with_reducible repeat (first | apply rA | apply rN | apply rD)); exact HO_18.out⟩, ⟨by (try simp only [hl18_7]); (with_reducible repeat (first | apply Kd.V_alloc | apply Kd.V_drewN | apply Kd.V_drew)); exact HO_158000.out⟩, ⟨by (try simp only [hl18_7]); (with_reducible repeat (first | apply rA | apply rN | apply rD)); exact HO_162000.out⟩, ⟨by (try simp only [hl18_7]); (with_reducible repeat (first | refine kN ?_ _ | refine kD ?_ | refine kA ?_ _)); exact BK157.out⟩, ⟨by (try simp only [hl18_7]); (with_reducible repeat (first | refine kN ?_ _ | refine kD ?_ | refine kA ?_ _)); exact BK161.out⟩, ⟨zB_ HB⟩⟩
                           rw [if_neg c111] at H
                           exact absurd H (by simp)
                          rw [if_neg c105] at H
                          exact absurd H (by simp)
                         rw [if_neg c104] at H
                         exact absurd H (by simp)
                      rw [if_neg c98] at H
                      exact absurd H (by simp)
                     rw [if_neg c97] at H
                     exact absurd H (by simp)
                    rw [if_neg c96] at H
                    exact absurd H (by simp)
                   rw [if_neg c91] at H
                   exact absurd H (by simp)
                  rw [if_neg c90] at H
                  exact absurd H (by simp)
             rw [if_neg c75] at H; have c75b0 := dF c75; clear c75; obtain ⟨t190, A116, H⟩ := zbind H
             obtain ⟨y193, hy193⟩ : ∃ y_ : List Int, y_ = (([x12_2, x15_4, wrap64 ((t190.length : Int) - x12_2), wrap64 ((l1.length : Int) - (wrap64 ((t190.length : Int) - x12_2))), wrap64 (Int.tdiv (wrap64 ((wrap64 ((wrap64 ((wrap64 (2 * x12_2)) - (t190.length : Int))) + (l1.length : Int))) - x15_4)) 2)] : List Int)) := ⟨_, rfl⟩
             replace H : (some y193) = some r := zH hy193 H
             have Ny193 := A0_ hy193; clear hy193; obtain rfl := sI H; have hnb117 := NB157_161.out; have hnc117 := NB161_157.out; have hcz118_0 := zc0 BK157; have hcz118_1 := zc1 BK157; have hfz118_0 := kF BK157.out 0; have hfz118_1 := kF BK157.out 1
             go_wp2_with (first | ((with_reducible refine gC (f := 81) rfl ?_); refine zJ (some 142) Tryz.func81 #[.slice A0_0 l0_0.length c0_0] ?_; (with_reducible refine (impl_cyclesOf.calls k4 _ _ l0_0 t190 _ ?side1 ?side2 A116.out).mono ?_); (case side1 => repeat (first | exact (Kd.V_reads' HO_158000.out).2.2 | (with_reducible refine cA ?_ _) | (with_reducible refine cN ?_ _) | (with_reducible refine cD ?_))); (case side2 => exact (Kd.V_reads' HO_158000.out).2.1); rintro e w119 ⟨v191, rfl, ho0, hb⟩; refine ⟨_, rfl, ?_⟩; replace HO_158000 := A0_ (Kd.V_elder' (by (with_reducible repeat (first | apply Kd.V_alloc | apply Kd.V_drewN | apply Kd.V_drew)); exact HO_158000.out) (Kd.S_base ho0) hb); have HO192 := A0_ (Kd.N_lower (Kd.N_mono (ok' := fun k_ => (P0_0_ k_ ∨ w.heap.size ≤ k_) ∧ some k_ ≠ ((.slice Ao7_ x7_1.length co7_) : Value).ownBlock ∧ some k_ ≠ (v188 : Value).ownBlock ∧ some k_ ≠ (u162000 : Value).ownBlock ∧ k_ ≠ gb157 ∧ k_ ≠ gb161) (Kd.S_N (Kd.S_bound ho0)) (fun k_ hk_ => ⟨(.inr (Nat.le_trans (bZ (zB_ HB)) hk_.2.1)), (Kd.fresh' (rX (zR_ HO_7)) k_ hk_.2.1), (Kd.fresh' (rX (zR_ HO_18)) k_ hk_.2.1), (Kd.fresh' (rX (zR_ HO_162000)) k_ hk_.2.1), (Kd.freshB (g := gb157) (o := .cells #[.slice A0_0 l0_0.length c0_0, .slice A0_1 l0_1.length c0_1] 25 (0, 0)) (zK_ BK157) k_ hk_.2.1), (Kd.freshB (g := gb161) (o := .cells #[u162000] 97 (0, 0)) (zK_ BK161) k_ hk_.2.1)⟩)) (bZ (zB_ HB))); replace HO_7 := zR HO_7 hb; replace HO_18 := zR HO_18 hb; replace HO_162000 := zR HO_162000 hb; replace BK157 := zK BK157 hb; replace BK161 := zK BK161 hb; replace HB := zB HB hb; (try clear hb); (try clear ho0); obtain ⟨Ao120, co120, eo120⟩ := Kd.N_slice HO192.out; subst eo120) | ((with_reducible refine gD (N := 164) rfl ?_); refine Kd.R_lit (Kd.int .i64) _ 3 ?hg (N := 164) ?hd (xs := ([x12_2, x15_4, wrap64 ((t190.length : Int) - x12_2), wrap64 ((l1.length : Int) - (wrap64 ((t190.length : Int) - x12_2))), wrap64 (Int.tdiv (wrap64 ((wrap64 ((wrap64 ((wrap64 (2 * x12_2)) - (t190.length : Int))) + (l1.length : Int))) - x15_4)) 2)] : List Int)) (inner := [.int .i64 x12_2, .int .i64 x15_4, .int .i64 (wrap64 ((t190.length : Int) - x12_2)), .int .i64 (wrap64 ((l1.length : Int) - (wrap64 ((t190.length : Int) - x12_2)))), .int .i64 (wrap64 (Int.tdiv (wrap64 ((wrap64 ((wrap64 ((wrap64 (2 * x12_2)) - (t190.length : Int))) + (l1.length : Int))) - x15_4)) 2))]) (ok := fun _ => True) (okp := fun _ => True) ?hr ?hp (fun _ hk => hk) trivial (Below.refl _ _) (Nat.le_refl _) (by simp) ?_; (case hd => rfl); (case hg => rfl); (case hr => first | (go_simp; done) | (go_simp; rfl)); (case hp => exact (Reps.one (show Kd.M (Kd.int .i64) _ _ _ x12_2 [.int .i64 x12_2] from rfl) (Reps.one (show Kd.M (Kd.int .i64) _ _ _ x15_4 [.int .i64 x15_4] from rfl) (Reps.one (show Kd.M (Kd.int .i64) _ _ _ (wrap64 ((t190.length : Int) - x12_2)) [.int .i64 (wrap64 ((t190.length : Int) - x12_2))] from rfl) (Reps.one (show Kd.M (Kd.int .i64) _ _ _ (wrap64 ((l1.length : Int) - (wrap64 ((t190.length : Int) - x12_2)))) [.int .i64 (wrap64 ((l1.length : Int) - (wrap64 ((t190.length : Int) - x12_2))))] from rfl) (Reps.one (show Kd.M (Kd.int .i64) _ _ _ (wrap64 (Int.tdiv (wrap64 ((wrap64 ((wrap64 ((wrap64 (2 * x12_2)) - (t190.length : Int))) + (l1.length : Int))) - x15_4)) 2)) [.int .i64 (wrap64 (Int.tdiv (wrap64 ((wrap64 ((wrap64 ((wrap64 (2 * x12_2)) - (t190.length : Int))) + (l1.length : Int))) - x15_4)) 2))] from rfl) (Reps.none _ _))))))); intro v194 w121 ho122 hb hg_ hnew_; clear hg_ hnew_; (first | rw [← Ny193.out] at ho122 | (simp only [Int.reduceToNat] at ho122; rw [← Ny193.out] at ho122)); replace HO_18 := zR HO_18 hb; replace HO_158000 := A0_ (Kd.V_elder' (by (with_reducible repeat (first | apply Kd.V_alloc | apply Kd.V_drewN | apply Kd.V_drew)); exact HO_158000.out) (Kd.R_base ho122) hb); replace HO_162000 := zR HO_162000 hb; replace HO192 := A0_ (Kd.N_elder' (by (with_reducible repeat (first | apply Kd.N_alloc | apply Kd.N_drewN | apply Kd.N_drew)); exact HO192.out) (Kd.R_base ho122) hb); have HO195 := A0_ (rL (Kd.R_new' (Kd.R_newM (M := fun k_ => (w.heap.size ≤ k_)) ho122 (bZ (zB_ HB)) (fun k_ h_ => h_)) (rX (zR_ HO_7))) (bZ (zB_ HB))); replace HO_7 := A0_ (Kd.R_elder' (zR_ HO_7) (Kd.R_base ho122) hb); replace BK157 := zK BK157 hb; replace BK161 := zK BK161 hb; replace HB := zB HB hb; clear hb ho122))
             go_ret
             exact ⟨_, by first | rfl | (simp [*] <;> rfl), zmR HO195 (fun _ hk => hk.1.1), zB_ HB⟩
          rw [if_neg c72] at H
          exact absurd H (by simp)
         rw [if_neg c71] at H
         exact absurd H (by simp)
  rw [if_neg c4] at H
  exact absurd H (by simp)
 rw [if_neg c3] at H
 exact absurd H (by simp)

end Go.Proofs.YtjebcgbmlbemcaaGreatDoor.PFnExecuteValue
