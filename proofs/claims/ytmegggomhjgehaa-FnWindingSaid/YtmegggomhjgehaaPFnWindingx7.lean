-- Made by a program of this session (wip/tools) out of the loaded program; not trusted: Lean checks it.
import Derived.Test.YtmegggomhjgehaaPFnWindingx0
import Derived.Test.YtmegggomhjgehaaPFnWindingx5
import Derived.Test.YtmegggomhjgehaaPFnWindingx6
-- packed
namespace Go.Proofs.Ytmegggomhjgehaa.PFnWinding
open Go.RowKit Go.Proofs.YtmegggomhjgehaaW.PrintWords Go.Proofs.YtmegggomhjgehaaW.PrintLast Go.Proofs.YtmegggomhjgehaaW.PrintMore
attribute [local go_sem] max2_int min2_int max_two min_two max_three min_three max_four min_four   -- for this text's walks alone
set_option linter.unusedVariables false
set_option linter.unusedSimpArgs false

/-! ### spec_l91Map: function 75 -/
mutual
def spec_l91Map.l0 : Nat → Int → List Int → List Int → Int → List Int → Int → Option (List Int × List Int × Int)
  | 0, _, _, _, _, _, _ => none
  | k + 1, x5, x6, x7, x8, x1000, x1001 => if (wrap64 (x8 + 1)) < x5 then (if 0 ≤ x8 then (if x8 < (x6.length : Int) then (if 0 ≤ (wrap64 (x8 + 1)) then (if (wrap64 (x8 + 1)) < (x6.length : Int) then (if 0 ≤ (rd x6 x8) then (if (rd x6 x8) < (x7.length : Int) then (if 0 ≤ (rd x6 (wrap64 (x8 + 1))) then (if (rd x6 (wrap64 (x8 + 1))) < (x7.length : Int) then (spec_l91Map.l0 k x5 x6 ((x7.set ((rd x6 x8) : Int).toNat (rd x6 (wrap64 (x8 + 1)))).set ((rd x6 (wrap64 (x8 + 1))) : Int).toNat (rd x6 x8)) (wrap64 (x8 + 2)) x1000 x1001) else (none)) else (none)) else (none)) else (none)) else (none)) else (none)) else (none)) else (none)) else ((spec_l91Perm.f k x1000 x1001 x5).bind fun bt266 => (spec_l91Map.l1 k x5 0 x1000 bt266.2 bt266.1 x7))
def spec_l91Map.l1 : Nat → Int → Int → List Int → Int → List Int → List Int → Option (List Int × List Int × Int)
  | 0, _, _, _, _, _, _ => none
  | k + 1, x5, x10, x1000, x1001, x271000, x271001 => if x10 < x5 then ((spec_MapValid.f k x271000 x271001).bind fun t271 => (spec_l91Map.j2 k x5 x10 (!t271) x1000 x1001 x271000 x271001)) else (spec_l91Map.j2 k x5 x10 false x1000 x1001 x271000 x271001)
def spec_l91Map.j2 : Nat → Int → Int → Bool → List Int → Int → List Int → List Int → Option (List Int × List Int × Int)
  | 0, _, _, _, _, _, _, _ => none
  | k + 1, x5, x10, x64, x1000, x1001, x271000, x271001 => if x64 = true then ((spec_l1Orbits.f k x271000 x271001).bind fun t272 => (spec_l91Map.l2 k x5 x10 t272 0 x1000 x1001 x271000 x271001)) else ((spec_l6Rd_pick.f k x1000 x1001 50).bind fun bt280 => (if bt280.1 = 0 then (if 0 < (x271001.length : Int) then (some (x271000, (x271001.set (0 : Int).toNat 0), bt280.2)) else (none)) else (if bt280.1 = 1 then (if 1 ≤ (x271000.length : Int) then (some ((x271000.drop (1 : Int).toNat), x271001, bt280.2)) else (none)) else (if bt280.1 = 2 then (if 0 < (x271000.length : Int) then (some ((x271000.set (0 : Int).toNat x5), x271001, bt280.2)) else (none)) else (some (x271000, x271001, bt280.2))))))
def spec_l91Map.l2 : Nat → Int → Int → List Int → Int → List Int → Int → List Int → List Int → Option (List Int × List Int × Int)
  | 0, _, _, _, _, _, _, _, _ => none
  | k + 1, x5, x10, x11, x12, x1000, x1001, x271000, x271001 => if 0 ≤ x12 then (if x12 < (x11.length : Int) then (if (rd x11 x12) = 0 then (spec_l91Map.l2 k x5 x10 x11 (wrap64 (x12 + 1)) x1000 x1001 x271000 x271001) else (if 0 < (x271000.length : Int) then (if x12 < (x271000.length : Int) then (spec_l91Map.l1 k x5 (wrap64 (x10 + 1)) x1000 x1001 ((x271000.set (0 : Int).toNat (rd x271000 x12)).set (x12 : Int).toNat (rd x271000 0)) x271001) else (none)) else (none))) else (none)) else (none)
end
def spec_l91Map.f (k : Nat) (s0_0 : List Int) (s0_1 : Int) (a1 : Int) : Option (List Int × List Int × Int) := (spec_l6Rd_pick.f k s0_0 s0_1 a1).bind fun bt251 => ((spec_l91Perm.f k s0_0 bt251.2 (wrap64 (2 * (wrap64 (1 + bt251.1))))).bind fun bt253 => (if 0 ≤ (wrap64 (2 * (wrap64 (1 + bt251.1)))) then (if (wrap64 (2 * (wrap64 (1 + bt251.1))) : Int).toNat ≤ 35184372088832 then (spec_l91Map.l0 k (wrap64 (2 * (wrap64 (1 + bt251.1)))) bt253.1 (List.replicate (wrap64 (2 * (wrap64 (1 + bt251.1))) : Int).toNat 0) 0 s0_0 bt253.2) else (none)) else (none)))
def spec_l91Map.T7 : Bool × List (List Nat × List Nat) := (true, [([], []), ([], []), ([], []), ([1, 2], [1, 2]), ([3], [3]), ([], []), ([], []), ([6], [6]), ([5, 7], [5, 7]), ([8], [8]), ([0, 4, 0, 1, 2, 3, 4, 5, 6, 7, 8, 9], [0, 4]), ([10, 9, 0, 1, 2, 3, 4, 5, 6, 7, 8, 9], [9, 10])])
def spec_l91Map.B7 : List Nat := [0, 0, 0, 6, 14, 0, 0, 64, 224, 480, 1023, 2047]
theorem spec_l91Map.tab7 : rtab .any (opsOf Try.f75 7) = spec_l91Map.T7 := by kernel_rfl
theorem spec_l91Map.bits7 : waitsOk spec_l91Map.T7.2 spec_l91Map.B7 = true := by kernel_rfl
def spec_l91Map.T8 : Bool × List (List Nat × List Nat) := (true, [([], []), ([], []), ([], []), ([2], [2]), ([1, 3], [1, 3]), ([4], [4]), ([], []), ([], []), ([6, 7], [6, 7]), ([8], [8]), ([0, 5, 0, 1, 2, 3, 4, 5, 6, 7, 8, 9], [0, 5]), ([10, 9, 0, 1, 2, 3, 4, 5, 6, 7, 8, 9], [9, 10])])
def spec_l91Map.B8 : List Nat := [0, 0, 0, 4, 14, 30, 0, 0, 192, 448, 1023, 2047]
theorem spec_l91Map.tab8 : rtab .any (opsOf Try.f75 8) = spec_l91Map.T8 := by kernel_rfl
theorem spec_l91Map.bits8 : waitsOk spec_l91Map.T8.2 spec_l91Map.B8 = true := by kernel_rfl
def spec_l91Map.T18 : Bool × List (List Nat × List Nat) := (true, [([], []), ([0], [0]), ([], []), ([2], [2]), ([], []), ([3, 4], [3, 4]), ([5], [5]), ([1, 0, 1, 2, 3, 4, 5, 6], [1]), ([7, 6, 0, 1, 2, 3, 4, 5, 6], [6, 7])])
def spec_l91Map.B18 : List Nat := [0, 1, 0, 4, 0, 28, 60, 127, 255]
theorem spec_l91Map.tab18 : rtab .any (opsOf Try.f75 18) = spec_l91Map.T18 := by kernel_rfl
theorem spec_l91Map.bits18 : waitsOk spec_l91Map.T18.2 spec_l91Map.B18 = true := by kernel_rfl
set_option maxHeartbeats 8000000 in
set_option maxRecDepth 100000 in
theorem spec_l91Map.calls (k : Nat) (g : Nat) (s0_0 : List Int) (s0_1 : Int) (a1 : Int) (r1 : List Int) (r2 : List Int) (r3 : Int) (w0 w : World) (hI : IsS82 w0 w g s0_0 s0_1) (hB : Below w0.heap.size w0 w) (h : spec_l91Map.f k s0_0 s0_1 a1 = some (r1, r2, r3)) :
    Calls Try.prog 75 #[.pointer (some ⟨g, 0, none⟩), .int .i64 a1] w fun e w' => ∃ v0_ v1_ : Value, e = .returned (.agg #[v0_, v1_]) ∧ Kd.Q (Kd.int .i64) 3 w' w.heap.size (fun k_ => some k_ ≠ (v1_ : Value).ownBlock) v0_ r1 ∧ Kd.R (Kd.int .i64) 3 w' w.heap.size (fun k_ => some k_ ≠ (v0_ : Value).ownBlock) v1_ r2 ∧ IsS82 w0 w' g s0_0 r3 ∧ Below w0.heap.size w0 w' ∧ KeepBut w w' g none := by
 have hu25 := Try.underlying25; have HI0 := A0_ hI
 have HK := A0_ (KeepBut.refl w g none)
 have HL := A0_ hB.size; clear hI; have HW0 := A0_ hB.size; have HB := A0_ hB; clear hB
 have H : ((spec_l6Rd_pick.f k s0_0 s0_1 a1).bind fun bt251 => ((spec_l91Perm.f k s0_0 bt251.2 (wrap64 (2 * (wrap64 (1 + bt251.1))))).bind fun bt253 => (if 0 ≤ (wrap64 (2 * (wrap64 (1 + bt251.1)))) then (if (wrap64 (2 * (wrap64 (1 + bt251.1))) : Int).toNat ≤ 35184372088832 then (spec_l91Map.l0 k (wrap64 (2 * (wrap64 (1 + bt251.1)))) bt253.1 (List.replicate (wrap64 (2 * (wrap64 (1 + bt251.1))) : Int).toNat 0) 0 s0_0 bt253.2) else (none)) else (none)))) = some (r1, r2, r3) := h
 clear h; obtain ⟨⟨t251, t252⟩, A3, H⟩ := zbind H; dsimp only at H; obtain ⟨⟨t253, t256⟩, A4, H⟩ := zbind H; dsimp only at H
 obtain ⟨ji5, hji5⟩ : ∃ j_ : Int, (wrap64 (2 * (wrap64 (1 + t251)))) = j_ := ⟨_, rfl⟩
 replace H : (if 0 ≤ (ji5) then (if (ji5 : Int).toNat ≤ 35184372088832 then (spec_l91Map.l0 k ji5 t253 (List.replicate (ji5 : Int).toNat 0) 0 s0_0 t256) else (none)) else (none)) = some (r1, r2, r3) := by first | (rw [hji5] at H; exact H) | (simp only [hji5] at H ⊢; exact H)
 (try rw [hji5] at A3)
 (try rw [hji5] at A4)
 have hji5w : (IntKind.i64.wrap (2 * (wrap64 (1 + t251)))) = ji5 := (i64_w _).trans hji5
 by_cases c6 : 0 ≤ (ji5)
 ·rw [if_pos c6] at H
  have c6b0 := eq_true c6; have c6b1 := dT c6; clear c6
  by_cases c7 : (ji5 : Int).toNat ≤ 35184372088832
  ·rw [if_pos c7] at H
   have c7b0 := eq_true c7; have c7b1 := dT c7; clear c7
   obtain ⟨y257, hy257⟩ : ∃ y_ : List Int, y_ = (List.replicate (ji5 : Int).toNat 0) := ⟨_, rfl⟩
   replace H : (spec_l91Map.l0 k ji5 t253 y257 0 s0_0 t256) = some (r1, r2, r3) := zH hy257 H
   have Ny257 := A0_ hy257; clear hy257; have H' := A0_ H; clear H
   go_enter Try.func75, Try.ntmps75
   go_wp2_with (first | ((with_reducible refine gD (N := 4) rfl ?_); refine zX (N := 4) (cs := #[.slice none 0 0, .slice none 0 0]) (t := 25) ?_; intro gb250 hg w8 hbox hb; replace HB := A0_ (bT (by repeat (first | (with_reducible first | exact HB.out | apply bA | apply bN | apply bD | refine bS ?_ (IsS82.ge HI0.out)) | exact HB.out)) hb); have BK250 := A0_ (hbox); have GW250 := A0_ ((by rw [hg]; exact (keep_size (w := w) (g := g) (row := none) (by repeat (first | (with_reducible first | exact HK.out | apply KeepBut.set_ | apply keep_drewN | apply keep_drew | apply keep_alloc) | exact HK.out))) : w.heap.size ≤ gb250)); have GE250 := A0_ ((Nat.le_trans HW0.out (by rw [hg]; exact (keep_size (w := w) (g := g) (row := none) (by repeat (first | (with_reducible first | exact HK.out | apply KeepBut.set_ | apply keep_drewN | apply keep_drew | apply keep_alloc) | exact HK.out))) : w.heap.size ≤ gb250) : w0.heap.size ≤ gb250)); replace HK := A0_ (KeepBut.trans (by repeat (first | (with_reducible first | exact HK.out | apply KeepBut.set_ | apply keep_drewN | apply keep_drew | apply keep_alloc) | exact HK.out)) (KeepBut.of_below hb g none) (.inl rfl)); have NB0_250 := A0_ ((by rw [hg]; exact Nat.ne_of_lt (IsS82.lt (show IsS82 w0 _ g s0_0 s0_1 from by repeat (first | (with_reducible first | exact HI0.out | apply IsS82.alloc | apply IsS82.drewN | apply IsS82.drew | apply IsS82.set_1) | exact HI0.out))) : g ≠ gb250)); have NB250_0 := A0_ ((by rw [hg]; exact Nat.ne_of_gt (IsS82.lt (show IsS82 w0 _ g s0_0 s0_1 from by repeat (first | (with_reducible first | exact HI0.out | apply IsS82.alloc | apply IsS82.drewN | apply IsS82.drew | apply IsS82.set_1) | exact HI0.out))) : gb250 ≠ g)); replace HI0 := A0_ (IsS82.below (by repeat (first | (with_reducible first | exact HI0.out | apply IsS82.alloc | apply IsS82.drewN | apply IsS82.drew | apply IsS82.set_1) | exact HI0.out)) hb); clear hb hbox hg) | ((with_reducible refine gC (f := 74) rfl ?_); refine zJ (some 16) Try.func74 #[.pointer (some ⟨g, 0, none⟩), .int .i64 a1] ?_; (with_reducible refine (spec_l6Rd_pick.calls k g s0_0 s0_1 a1 t251 t252 w0 _ ?side1 ?side2 A3.out).mono ?_); (case side1 => repeat (first | (with_reducible first | exact HI0.out | apply IsS82.alloc | apply IsS82.drewN | apply IsS82.drew | apply IsS82.set_1 | refine IsS82.far ?_ NB0_250.out _) | exact HI0.out)); (case side2 => repeat (first | (with_reducible first | exact HB.out | apply bA | apply bN | apply bD | refine bS ?_ (IsS82.ge HI0.out) | refine bS ?_ GE250.out) | exact HB.out)); rintro e w9 ⟨rfl, hi, hb, hk⟩; refine ⟨_, rfl, ?_⟩; replace BK250 := A0_ (KeepBut.blk hk (g' := gb250) (o := .cells #[.slice none 0 0, .slice none 0 0] 25 (0, 0)) (zK_ BK250) NB250_0.out (by simp)); replace HK := A0_ (KeepBut.trans (by repeat (first | (with_reducible first | exact HK.out | apply KeepBut.set_ | apply keep_drewN | apply keep_drew | apply keep_alloc | refine keep_far ?_ GW250.out _) | exact HK.out)) hk (.inl rfl)); replace HB := A0_ (hb); replace HI0 := A0_ (hi); (try clear hb)) | ((with_reducible refine gC (f := 87) rfl ?_); refine goesL_ (some 21) rfl rfl Try.func87 (by kernel_rfl) rfl #[.pointer (some ⟨g, 0, none⟩), .int .i64 ji5] rfl (by (try simp only [List.map_toArray, List.map_cons, List.map_nil]); first | done | (simp only [hji5]; rfl) | rfl | (simp only [List.length_drop, List.length_take]; rfl)) ?_; (with_reducible refine (spec_l91Perm.calls k g s0_0 t252 ji5 t253 t256 w0 _ ?side1 ?side2 A4.out).mono ?_); (case side1 => repeat (first | (with_reducible first | exact HI0.out | apply IsS82.alloc | apply IsS82.drewN | apply IsS82.drew | apply IsS82.set_1 | refine IsS82.far ?_ NB0_250.out _) | exact HI0.out)); (case side2 => repeat (first | (with_reducible first | exact HB.out | apply bA | apply bN | apply bD | refine bS ?_ (IsS82.ge HI0.out) | refine bS ?_ GE250.out) | exact HB.out)); rintro e w10 ⟨v254, rfl, ho0, hi, hb, hk⟩; refine ⟨_, rfl, ?_⟩; replace BK250 := A0_ (KeepBut.blk hk (g' := gb250) (o := .cells #[.slice none 0 0, .slice none 0 0] 25 (0, 0)) (zK_ BK250) NB250_0.out (by simp)); have HO255 := A0_ (rL ho0 (keep_size (w := w) (g := g) (row := none) (by repeat (first | (with_reducible first | exact HK.out | apply KeepBut.set_ | apply keep_drewN | apply keep_drew | apply keep_alloc | refine keep_far ?_ GW250.out _) | exact HK.out)))); replace HK := A0_ (KeepBut.trans (by repeat (first | (with_reducible first | exact HK.out | apply KeepBut.set_ | apply keep_drewN | apply keep_drew | apply keep_alloc | refine keep_far ?_ GW250.out _) | exact HK.out)) hk (.inl rfl)); replace HB := A0_ (hb); replace HI0 := A0_ (hi); (try clear hb); (try clear ho0)) | ((with_reducible refine gD (N := 23) rfl ?_); refine Kd.R_make (Kd.int .i64) _ 3 rfl (N := 23) rfl 23 _ _ rfl ji5 rfl rfl Try.underlying23 (.int .i64 0) 8 info3 rfl (by decide) (by omega) 0 (ok := fun _ => True) (okp := fun _ => True) rfl (fun _ hk => hk) trivial (zd) (Nat.le_trans (Nat.mul_le_mul_right _ (zd : ji5.toNat ≤ 35184372088832)) (by omega)) (Below.refl _ _) (Nat.le_refl _) ?_; intro v258 w11 ho12 hb hg_ hnew_; clear hg_ hnew_; (first | rw [← Ny257.out] at ho12 | (simp only [Int.reduceToNat] at ho12; rw [← Ny257.out] at ho12)); have HO259 := A0_ (rL (Kd.R_new' ho12 (rX (zR_ HO255))) (keep_size (w := w) (g := g) (row := none) (by repeat (first | (with_reducible first | exact HK.out | apply KeepBut.set_ | apply keep_drewN | apply keep_drew | apply keep_alloc | refine keep_far ?_ GW250.out _) | exact HK.out)))); replace HO255 := A0_ (Kd.R_elder' (zR_ HO255) (Kd.R_base ho12) hb); replace BK250 := zK BK250 hb; replace HK := A0_ (KeepBut.trans (by repeat (first | (with_reducible first | exact HK.out | apply KeepBut.set_ | apply keep_drewN | apply keep_drew | apply keep_alloc | refine keep_far ?_ GW250.out _) | exact HK.out)) (KeepBut.of_below hb g none) (.inl rfl)); replace HB := A0_ (bT (by repeat (first | (with_reducible first | exact HB.out | apply bA | apply bN | apply bD | refine bS ?_ (IsS82.ge HI0.out) | refine bS ?_ GE250.out) | exact HB.out)) hb); replace HI0 := A0_ (IsS82.below (by repeat (first | (with_reducible first | exact HI0.out | apply IsS82.alloc | apply IsS82.drewN | apply IsS82.drew | apply IsS82.set_1 | refine IsS82.far ?_ NB0_250.out _) | exact HI0.out)) hb); clear hb ho12))
   go_loopg [8] k (fun kq v8 w' => ∃ (x7_1 : List Int) (x8_1 : Int), v8 = .int .i64 x8_1 ∧ Aside0 (spec_l91Map.l0 kq ji5 t253 x7_1 x8_1 s0_0 t256 = some (r1, r2, r3)) ∧ Aside0 (kq ≤ k) ∧ Aside0 (Kd.R (Kd.int .i64) 3 w' w.heap.size (fun k_ => some k_ ≠ (v258 : Value).ownBlock) v254 t253) ∧ Aside0 (Kd.R (Kd.int .i64) 3 w' w.heap.size (fun k_ => some k_ ≠ (v254 : Value).ownBlock) v258 x7_1) ∧ Aside0 (w'.heap[gb250]? = some (.cells #[(.slice none 0 0), (.slice none 0 0)] 25 (0, 0))) ∧ Aside0 (IsS82 w0 w' g s0_0 t256) ∧ Aside0 (KeepBut w w' g none) ∧ Aside0 (Below w0.heap.size w0 w'))
   case atStart => exact ⟨(y257), (0), zt, H', ⟨Nat.le_refl _⟩, ⟨zmR HO255 (fun _ hk => hk.2)⟩, ⟨zmR HO259 (fun _ hk => hk.2)⟩, ⟨zK_ BK250⟩, ⟨by repeat (first | (with_reducible first | exact HI0.out | apply IsS82.alloc | apply IsS82.drewN | apply IsS82.drew | apply IsS82.set_1 | refine IsS82.far ?_ NB0_250.out _) | exact HI0.out)⟩, ⟨by repeat (first | (with_reducible first | exact HK.out | apply KeepBut.set_ | apply keep_drewN | apply keep_drew | apply keep_alloc | refine keep_far ?_ GW250.out _) | exact HK.out)⟩, ⟨by repeat (first | (with_reducible first | exact HB.out | apply bA | apply bN | apply bD | refine bS ?_ (IsS82.ge HI0.out) | refine bS ?_ GE250.out) | exact HB.out)⟩⟩
   case round =>
    clear H'; (try clear p2); (try clear c6); (try clear c6b0); (try clear c6b1); (try clear p6); (try clear c7); (try clear c7b0); (try clear c7b1); (try clear c8); obtain ⟨x7_1, x8_1, rfl, HA, HK1, HO_6, HO_7, BK250, HI0, HK, HB⟩ := hrel
    cases gk with
    | zero => exact absurd HA.out (by simp [spec_l91Map.l0])
    | succ k1 =>
     have H := HA.out; clear HA; simp only [spec_l91Map.l0] at H
     by_cases c13 : (wrap64 (x8_1 + 1)) < ji5
     ·rw [if_pos c13] at H
      have c13b0 := dT c13; clear c13
      by_cases c14 : 0 ≤ x8_1
      ·rw [if_pos c14] at H
       have c14b0 := dT c14; clear c14
       by_cases c15 : x8_1 < (t253.length : Int)
       ·rw [if_pos c15] at H
        have c15b0 := dT c15; clear c15
        obtain ⟨ji16, hji16⟩ : ∃ j_ : Int, (wrap64 (x8_1 + 1)) = j_ := ⟨_, rfl⟩
        replace H : (if 0 ≤ (ji16) then (if (ji16) < (t253.length : Int) then (if 0 ≤ (rd t253 x8_1) then (if (rd t253 x8_1) < (x7_1.length : Int) then (if 0 ≤ (rd t253 (ji16)) then (if (rd t253 (ji16)) < (x7_1.length : Int) then (spec_l91Map.l0 k1 ji5 t253 ((x7_1.set ((rd t253 x8_1) : Int).toNat (rd t253 (ji16))).set ((rd t253 (ji16)) : Int).toNat (rd t253 x8_1)) (wrap64 (x8_1 + 2)) s0_0 t256) else (none)) else (none)) else (none)) else (none)) else (none)) else (none)) = some (r1, r2, r3) := by first | (rw [hji16] at H; exact H) | (simp only [hji16] at H ⊢; exact H)
        (try rw [hji16] at c13b0)
        have hji16w : (IntKind.i64.wrap (x8_1 + 1)) = ji16 := (i64_w _).trans hji16
        by_cases c17 : 0 ≤ (ji16)
        ·rw [if_pos c17] at H
         have c17b0 := dT c17; clear c17
         by_cases c18 : (ji16) < (t253.length : Int)
         ·rw [if_pos c18] at H
          have c18b0 := dT c18; clear c18
          by_cases c19 : 0 ≤ (rd t253 x8_1)
          ·rw [if_pos c19] at H
           have c19b0 := dT c19; clear c19
           by_cases c20 : (rd t253 x8_1) < (x7_1.length : Int)
           ·rw [if_pos c20] at H
            have c20b0 := dT c20; clear c20
            obtain ⟨y262, hy262⟩ : ∃ y_ : List Int, y_ = (x7_1.set ((rd t253 x8_1) : Int).toNat (rd t253 (ji16))) := ⟨_, rfl⟩
            replace H : (if 0 ≤ (rd t253 (ji16)) then (if (rd t253 (ji16)) < (x7_1.length : Int) then (spec_l91Map.l0 k1 ji5 t253 (y262.set ((rd t253 (ji16)) : Int).toNat (rd t253 x8_1)) (wrap64 (x8_1 + 2)) s0_0 t256) else (none)) else (none)) = some (r1, r2, r3) := zH hy262 H
            have Ny262 := A0_ hy262; clear hy262
            by_cases c22 : 0 ≤ (rd t253 (ji16))
            ·rw [if_pos c22] at H
             have c22b0 := dT c22; clear c22
             by_cases c23 : (rd t253 (ji16)) < (x7_1.length : Int)
             ·rw [if_pos c23] at H
              have c23b0 := dT c23; clear c23
              obtain ⟨y265, hy265⟩ : ∃ y_ : List Int, y_ = (y262.set ((rd t253 (ji16)) : Int).toNat (rd t253 x8_1)) := ⟨_, rfl⟩
              replace H : (spec_l91Map.l0 k1 ji5 t253 y265 (wrap64 (x8_1 + 2)) s0_0 t256) = some (r1, r2, r3) := zH hy265 H
              have Ny265 := A0_ hy265; clear hy265; have H' := A0_ H; clear H
              try go_wp2
              replace HO_6 := A0_ (rD HO_6.out)
              replace HO_7 := A0_ (rD HO_7.out)
              replace BK250 := A0_ (kD BK250.out)
              replace HI0 := A0_ (IsS82.drew HI0.out)
              replace HK := A0_ (keep_drew HK.out)
              replace HB := A0_ (bD HB.out)
              obtain ⟨Ao26, co26, eo26⟩ := rS HO_6.out
              (first | subst eo26 | (injection eo26 with f1_ f2_ f3_; have f4_ := f1_.symm; have f5_ := f3_.symm; clear f1_ f2_ f3_; subst f4_; subst f5_))
              have p260 : 0 ≤ (x8_1 : Int) := zd
              have q260 : x8_1 < (t253.length : Int) := zd
              obtain ⟨ad260, e260, hx260_0⟩ := tI (rR HO_6.out).2.2 x8_1 p260 q260
              cases e260
              replace p260 := eq_true p260; replace q260 := eq_true q260
              have p261 : 0 ≤ ((ji16) : Int) := zd
              have q261 : (ji16) < (t253.length : Int) := zd
              obtain ⟨ad261, e261, hx261_0⟩ := tI (rR HO_6.out).2.2 (ji16) p261 q261
              obtain rfl : ad260 = ad261 := (by injection e261)
              replace p261 := eq_true p261; replace q261 := eq_true q261
              have p21 : 0 ≤ ((rd t253 x8_1) : Int) := zd
              have q21 : ((rd t253 x8_1) : Int) < ((x7_1.length : Int) : Int) := zd
              obtain ⟨go21, co21, eo21, gb21, gl21, cl21, HG21⟩ := Kd.R_form HO_7.out (by omega)
              (first | cases eo21 | (injection eo21 with ea_ en_ ec_; (first | subst ea_ | (injection ea_ with ea_; subst ea_)); subst ec_; clear en_))
              have GB21 := A0_ gb21; have GG21 := A0_ HG21; clear gb21 gl21 HG21
              obtain ⟨hx21_0, hf21_0⟩ := Kd.R_celln 0 HO_7.out ((rd t253 x8_1) : Int) p21 q21
              replace p21 := eq_true p21; replace q21 := eq_true q21
              have HN0_go21 := A0_ (show g ≠ go21 from by have h_ := IsS82.own_ne HI0.out HO_7.out (by decide); intro e_; exact h_ (by rw [e_]; rfl))
              have HP27 := Kd.R_putn HO_7.out ((rd t253 x8_1) : Int) (rd t253 (ji16))
              rw [← Ny262.out] at HP27
              have HQ27 := A0_ HP27; clear HP27
              refine start_ (n := 12) (S := fun w' => w'.cell? (ad260.add (x8_1).toNat) = some (.int .i64 (rd t253 x8_1)) ∧ w'.cell? (ad260.add ((ji16)).toNat) = some (.int .i64 (rd t253 (ji16)))) (ds := [11]) #[false, false, false, false, false, false, false, false, false, false, false, false] (by kernel_rfl) rfl rfl ⟨hx260_0, hx261_0⟩ (fun hHeld => ?_); refine with_tabW spec_l91Map.tab7 spec_l91Map.bits7 (fun HT_ HW_ => ?_)
              generalize wr.drew = w25 at HO_6 HO_7 BK250 HI0 HK HB GG21 HQ27 hf21_0 hx21_0 hx260_0 hx261_0 hHeld ⊢
              refine zP 0 (some 30) #[true,false,false,false,false,false,false,false,false,false,false,false] ?_
              refine zP 1 (some 31) #[true,true,false,false,false,false,false,false,false,false,false,false] ?_
              refine zP 2 (some 32) #[true,true,true,false,false,false,false,false,false,false,false,false] ?_
              refine zP 3 (some 33) #[true,true,true,true,false,false,false,false,false,false,false,false] ?_
              refine zP 5 (some 35) #[true,true,true,true,false,true,false,false,false,false,false,false] ?_
              refine zP 6 (some 36) #[true,true,true,true,false,true,true,false,false,false,false,false] ?_
              refine zP 7 (some 37) #[true,true,true,true,false,true,true,true,false,false,false,false] ?_
              refine zP 8 (some 38) #[true,true,true,true,false,true,true,true,true,false,false,false] ?_
              refine take_ (i := 4) (N := some 34) (v := ?_) (a' := ?_) #[true, true, true, true, true, true, true, true, true, false, false, false] rfl rfl (take_ofW HT_.out HW_.out (by kernel_rfl)) (fun _ _ _ h => h) (Or.inl ⟨by rfl, ?_⟩) hHeld ?_ ?_
              rotate_left
              ·rintro w' ⟨s0, s1⟩
               go_simp
               with_reducible rfl
              rotate_left
              ·simp only [Act.put, List.setIfInBounds_toArray, List.set_cons_zero, List.set_cons_succ, i64_w, i32_w]
               rfl
              refine take_ (i := 9) (N := some 39) (v := ?_) (a' := ?_) #[true, true, true, true, true, true, true, true, true, true, false, false] rfl rfl (take_ofW HT_.out HW_.out (by kernel_rfl)) (fun _ _ _ h => h) (Or.inl ⟨by rfl, ?_⟩) hHeld ?_ ?_
              rotate_left
              ·rintro w' ⟨s0, s1⟩
               go_simp
               with_reducible rfl
              rotate_left
              ·simp only [Act.put, List.setIfInBounds_toArray, List.set_cons_zero, List.set_cons_succ, i64_w, i32_w]
               rfl
              refine zP 10 (some 40) #[true,true,true,true,true,true,true,true,true,true,true,false] ?_
              refine last_ (i := 11) (N := none) #[true, true, true, true, true, true, true, true, true, true, true, true] rfl rfl (one_of HT_.out (by kernel_rfl)) (by decide) (fun K hK => ?_)
              refine skip_ (w1 := ?_) (by rfl) rfl ?_ ?_
              rotate_left
              ·go_simp
               rfl
              refine hK.out _ _ ?_
              clear hK K
              refine done_ (done_of HT_.out (by kernel_rfl)) ?_
              try go_wp2
              have n0_ : Aside0 (Kd.R (Kd.int .i64) 3 (w25.setCell ⟨go21, ((rd t253 x8_1) : Int).toNat, none⟩ (.int .i64 (rd t253 (ji16)))) w.heap.size (fun k_ => some k_ ≠ (.slice (some ⟨go21, 0, none⟩) x7_1.length co21 : Value).ownBlock) (.slice (some ad260) t253.length co26) t253) := ⟨by (with_reducible repeat (first | apply rA | apply rN | apply rD)); exact rM (rF (p := ⟨go21, ((rd t253 x8_1) : Int).toNat, none⟩) (rM HO_6.out (fun k_ hk => (⟨hk, fun e_ => hk (by rw [e_]; rfl)⟩ : _ ∧ k_ ≠ go21))) (fun _ hk => hk.2) (.int .i64 (rd t253 (ji16)))) (fun _ hk => hk.1)⟩
              have n1_ : Aside0 (Kd.R (Kd.int .i64) 3 (w25.setCell ⟨go21, ((rd t253 x8_1) : Int).toNat, none⟩ (.int .i64 (rd t253 (ji16)))) w.heap.size (fun k_ => some k_ ≠ (.slice (some ad260) t253.length co26 : Value).ownBlock) (.slice (some ⟨go21, 0, none⟩) x7_1.length co21) y262) := ⟨zR_ HQ27⟩
              have n2_ : Aside0 ((w25.setCell ⟨go21, ((rd t253 x8_1) : Int).toNat, none⟩ (.int .i64 (rd t253 (ji16)))).heap[gb250]? = some (.cells #[.slice none 0 0, .slice none 0 0] 25 (0, 0))) := ⟨by (with_reducible repeat (first | refine kN ?_ _ | refine kD ?_ | refine kA ?_ _)); refine blk_far ?_ (by have h_ := Kd.R_ne HO_7.out BK250.out (by decide); intro e_; exact h_ (by rw [e_]; rfl)) _; (with_reducible repeat (first | refine kN ?_ _ | refine kD ?_ | refine kA ?_ _)); exact BK250.out⟩
              have n3_ : Aside0 (IsS82 w0 (w25.setCell ⟨go21, ((rd t253 x8_1) : Int).toNat, none⟩ (.int .i64 (rd t253 (ji16)))) g s0_0 t256) := ⟨by repeat (first | (with_reducible first | exact HI0.out | apply IsS82.alloc | apply IsS82.drewN | apply IsS82.drew | apply IsS82.set_1 | refine IsS82.far ?_ HN0_go21.out _ | refine IsS82.far ?_ NB0_250.out _) | exact HI0.out)⟩
              have n4_ : Aside0 (KeepBut w (w25.setCell ⟨go21, ((rd t253 x8_1) : Int).toNat, none⟩ (.int .i64 (rd t253 (ji16)))) g none) := ⟨by repeat (first | (with_reducible first | exact HK.out | apply KeepBut.set_ | apply keep_drewN | apply keep_drew | apply keep_alloc | refine keep_far ?_ GB21.out _ | refine keep_far ?_ GW250.out _) | exact HK.out)⟩
              have n5_ : Aside0 (Below w0.heap.size w0 (w25.setCell ⟨go21, ((rd t253 x8_1) : Int).toNat, none⟩ (.int .i64 (rd t253 (ji16))))) := ⟨by repeat (first | (with_reducible first | exact HB.out | apply bA | apply bN | apply bD | refine bS ?_ (Nat.le_trans HL.out GB21.out) | refine bS ?_ (IsS82.ge HI0.out) | refine bS ?_ GE250.out) | exact HB.out)⟩
              (try clear HO_6); (try clear HO_7); (try clear BK250); (try clear HI0); (try clear HK); (try clear HB)
              generalize (w25.setCell ⟨go21, ((rd t253 x8_1) : Int).toNat, none⟩ (.int .i64 (rd t253 (ji16)))) = w28 at n0_ n1_ n2_ n3_ n4_ n5_ ⊢
              have HO_6 := n0_; have HO_7 := n1_; have BK250 := n2_; have HI0 := n3_; have HK := n4_; have HB := n5_; clear n0_ n1_ n2_ n3_ n4_ n5_
              replace HO_6 := A0_ (rD HO_6.out)
              replace HO_7 := A0_ (rD HO_7.out)
              replace BK250 := A0_ (kD BK250.out)
              replace HI0 := A0_ (IsS82.drew HI0.out)
              replace HK := A0_ (keep_drew HK.out)
              replace HB := A0_ (bD HB.out)
              have p263 : 0 ≤ ((ji16) : Int) := zd
              have q263 : (ji16) < (t253.length : Int) := zd
              obtain ⟨ad263, e263, hx263_0⟩ := tI (rR HO_6.out).2.2 (ji16) p263 q263
              obtain rfl : ad260 = ad263 := (by injection e263)
              replace p263 := eq_true p263; replace q263 := eq_true q263
              have p264 : 0 ≤ (x8_1 : Int) := zd
              have q264 : x8_1 < (t253.length : Int) := zd
              obtain ⟨ad264, e264, hx264_0⟩ := tI (rR HO_6.out).2.2 x8_1 p264 q264
              obtain rfl : ad260 = ad264 := (by injection e264)
              replace p264 := eq_true p264; replace q264 := eq_true q264
              have p24 : 0 ≤ ((rd t253 (ji16)) : Int) := zd
              have q24 : ((rd t253 (ji16)) : Int) < ((x7_1.length : Int) : Int) := zd
              obtain ⟨hx24_0, hf24_0⟩ := Kd.R_celln 0 HO_7.out ((rd t253 (ji16)) : Int) p24 q24
              replace p24 := eq_true p24; replace q24 := eq_true q24
              have HN0_go21 := A0_ (show g ≠ go21 from by have h_ := IsS82.own_ne HI0.out HO_7.out (by decide); intro e_; exact h_ (by rw [e_]; rfl))
              have HP30 := Kd.R_putn HO_7.out ((rd t253 (ji16)) : Int) (rd t253 x8_1)
              rw [← Ny265.out] at HP30
              have HQ30 := A0_ HP30; clear HP30
              refine start_ (n := 12) (S := fun w' => w'.cell? (ad260.add ((ji16)).toNat) = some (.int .i64 (rd t253 (ji16))) ∧ w'.cell? (ad260.add (x8_1).toNat) = some (.int .i64 (rd t253 x8_1))) (ds := [11]) #[false, false, false, false, false, false, false, false, false, false, false, false] (by kernel_rfl) rfl rfl ⟨hx263_0, hx264_0⟩ (fun hHeld => ?_); refine with_tabW spec_l91Map.tab8 spec_l91Map.bits8 (fun HT_ HW_ => ?_)
              generalize w28.drew = w29 at HO_6 HO_7 BK250 HI0 HK HB HQ27 HQ30 hf24_0 hx24_0 hx263_0 hx264_0 hHeld ⊢
              refine zP 0 (some 41) #[true,false,false,false,false,false,false,false,false,false,false,false] ?_
              refine zP 1 (some 42) #[true,true,false,false,false,false,false,false,false,false,false,false] ?_
              refine zP 2 (some 43) #[true,true,true,false,false,false,false,false,false,false,false,false] ?_
              refine zP 3 (some 44) #[true,true,true,true,false,false,false,false,false,false,false,false] ?_
              refine zP 4 (some 45) #[true,true,true,true,true,false,false,false,false,false,false,false] ?_
              refine zP 6 (some 47) #[true,true,true,true,true,false,true,false,false,false,false,false] ?_
              refine zP 7 (some 48) #[true,true,true,true,true,false,true,true,false,false,false,false] ?_
              refine zP 8 (some 49) #[true,true,true,true,true,false,true,true,true,false,false,false] ?_
              refine take_ (i := 5) (N := some 46) (v := ?_) (a' := ?_) #[true, true, true, true, true, true, true, true, true, false, false, false] rfl rfl (take_ofW HT_.out HW_.out (by kernel_rfl)) (fun _ _ _ h => h) (Or.inl ⟨by rfl, ?_⟩) hHeld ?_ ?_
              rotate_left
              ·rintro w' ⟨s0, s1⟩
               go_simp
               with_reducible rfl
              rotate_left
              ·simp only [Act.put, List.setIfInBounds_toArray, List.set_cons_zero, List.set_cons_succ, i64_w, i32_w]
               rfl
              refine take_ (i := 9) (N := some 50) (v := ?_) (a' := ?_) #[true, true, true, true, true, true, true, true, true, true, false, false] rfl rfl (take_ofW HT_.out HW_.out (by kernel_rfl)) (fun _ _ _ h => h) (Or.inl ⟨by rfl, ?_⟩) hHeld ?_ ?_
              rotate_left
              ·rintro w' ⟨s0, s1⟩
               go_simp
               with_reducible rfl
              rotate_left
              ·simp only [Act.put, List.setIfInBounds_toArray, List.set_cons_zero, List.set_cons_succ, i64_w, i32_w]
               rfl
              refine zP 10 (some 51) #[true,true,true,true,true,true,true,true,true,true,true,false] ?_
              refine last_ (i := 11) (N := none) #[true, true, true, true, true, true, true, true, true, true, true, true] rfl rfl (one_of HT_.out (by kernel_rfl)) (by decide) (fun K hK => ?_)
              refine skip_ (w1 := ?_) (by rfl) rfl ?_ ?_
              rotate_left
              ·go_simp
               rfl
              refine hK.out _ _ ?_
              clear hK K
              refine done_ (done_of HT_.out (by kernel_rfl)) ?_
              try go_wp2
              go_roundg k1
              case measure => have := HK1.out; omega
              case rel => exact ⟨(y265), (wrap64 (x8_1 + 2)), zt, H', ⟨by have := HK1.out; omega⟩, ⟨by (with_reducible repeat (first | apply rA | apply rN | apply rD)); exact rM (rF (p := ⟨go21, ((rd t253 (ji16)) : Int).toNat, none⟩) (rM HO_6.out (fun k_ hk => (⟨hk, fun e_ => hk (by rw [e_]; rfl)⟩ : _ ∧ k_ ≠ go21))) (fun _ hk => hk.2) (.int .i64 (rd t253 x8_1))) (fun _ hk => hk.1)⟩, ⟨zR_ HQ30⟩, ⟨by (with_reducible repeat (first | refine kN ?_ _ | refine kD ?_ | refine kA ?_ _)); refine blk_far ?_ (by have h_ := Kd.R_ne HO_7.out BK250.out (by decide); intro e_; exact h_ (by rw [e_]; rfl)) _; (with_reducible repeat (first | refine kN ?_ _ | refine kD ?_ | refine kA ?_ _)); exact BK250.out⟩, ⟨by repeat (first | (with_reducible first | exact HI0.out | apply IsS82.alloc | apply IsS82.drewN | apply IsS82.drew | apply IsS82.set_1 | refine IsS82.far ?_ HN0_go21.out _ | refine IsS82.far ?_ NB0_250.out _) | exact HI0.out)⟩, ⟨by repeat (first | (with_reducible first | exact HK.out | apply KeepBut.set_ | apply keep_drewN | apply keep_drew | apply keep_alloc | refine keep_far ?_ GB21.out _ | refine keep_far ?_ GW250.out _) | exact HK.out)⟩, ⟨by repeat (first | (with_reducible first | exact HB.out | apply bA | apply bN | apply bD | refine bS ?_ (Nat.le_trans HL.out GB21.out) | refine bS ?_ (IsS82.ge HI0.out) | refine bS ?_ GE250.out) | exact HB.out)⟩⟩
             rw [if_neg c23] at H
             exact absurd H (by simp)
            rw [if_neg c22] at H
            exact absurd H (by simp)
           rw [if_neg c20] at H
           exact absurd H (by simp)
          rw [if_neg c19] at H
          exact absurd H (by simp)
         rw [if_neg c18] at H
         exact absurd H (by simp)
        rw [if_neg c17] at H
        exact absurd H (by simp)
       rw [if_neg c15] at H
       exact absurd H (by simp)
      rw [if_neg c14] at H
      exact absurd H (by simp)
     rw [if_neg c13] at H; have c13b0 := dF c13; clear c13; obtain ⟨⟨t266, t269⟩, A31, H⟩ := zbind H; dsimp only at H; have H' := A0_ H; clear H
     go_wp2_with (first | ((with_reducible refine gC (f := 87) rfl ?_); refine goesL_ (some 54) rfl rfl Try.func87 (by kernel_rfl) rfl #[.pointer (some ⟨g, 0, none⟩), .int .i64 ji5] rfl (by (try simp only [List.map_toArray, List.map_cons, List.map_nil]); first | done | (simp only [hji5]; rfl) | rfl | (simp only [List.length_drop, List.length_take]; rfl)) ?_; (with_reducible refine (spec_l91Perm.calls k1 g s0_0 t256 ji5 t266 t269 w0 _ ?side1 ?side2 A31.out).mono ?_); (case side1 => repeat (first | (with_reducible first | exact HI0.out | apply IsS82.alloc | apply IsS82.drewN | apply IsS82.drew | apply IsS82.set_1 | refine IsS82.far ?_ NB0_250.out _) | exact HI0.out)); (case side2 => repeat (first | (with_reducible first | exact HB.out | apply bA | apply bN | apply bD | refine bS ?_ (IsS82.ge HI0.out) | refine bS ?_ GE250.out) | exact HB.out)); rintro e w32 ⟨v267, rfl, ho0, hi, hb, hk⟩; refine ⟨_, rfl, ?_⟩; replace BK250 := A0_ (KeepBut.blk hk (g' := gb250) (o := .cells #[.slice none 0 0, .slice none 0 0] 25 (0, 0)) (zK_ BK250) NB250_0.out (by simp)); have HO268 := A0_ (rL (Kd.R_new' (Kd.R_new' ho0 (rX (zR_ HO_6))) (rX (zR_ HO_7))) (keep_size (w := w) (g := g) (row := none) (by repeat (first | (with_reducible first | exact HK.out | apply KeepBut.set_ | apply keep_drewN | apply keep_drew | apply keep_alloc | refine keep_far ?_ GW250.out _) | exact HK.out)))); replace HO_6 := A0_ (rM (rT (Kd.R_oldK (IsS82.apart (show IsS82 w0 _ g s0_0 t256 from by repeat (first | (with_reducible first | exact HI0.out | apply IsS82.alloc | apply IsS82.drewN | apply IsS82.drew | apply IsS82.set_1 | refine IsS82.far ?_ NB0_250.out _) | exact HI0.out)) (zR_ HO_6) (by decide)) hk) (Kd.R_base ho0)) (fun _ h_ => h_.1)); replace HO_7 := A0_ (rM (rT (Kd.R_oldK (IsS82.apart (show IsS82 w0 _ g s0_0 t256 from by repeat (first | (with_reducible first | exact HI0.out | apply IsS82.alloc | apply IsS82.drewN | apply IsS82.drew | apply IsS82.set_1 | refine IsS82.far ?_ NB0_250.out _) | exact HI0.out)) (zR_ HO_7) (by decide)) hk) (Kd.R_base ho0)) (fun _ h_ => h_.1)); replace HK := A0_ (KeepBut.trans (by repeat (first | (with_reducible first | exact HK.out | apply KeepBut.set_ | apply keep_drewN | apply keep_drew | apply keep_alloc | refine keep_far ?_ GW250.out _) | exact HK.out)) hk (.inl rfl)); replace HB := A0_ (hb); replace HI0 := A0_ (hi); (try clear hb); (try clear ho0); obtain ⟨Ao33, co33, eo33⟩ := rS HO_7.out; subst eo33; obtain ⟨Ao34, co34, eo34⟩ := rS HO268.out; subst eo34) | ((with_reducible refine gD (N := 9) rfl ?_); refine zX (N := 9) (cs := #[.slice none 0 0, .slice none 0 0]) (t := 25) ?_; intro gb270 hg w35 hbox hb; replace HO_6 := zR HO_6 hb; replace HO_7 := zR HO_7 hb; replace HO268 := zR HO268 hb; replace HB := A0_ (bT (by repeat (first | (with_reducible first | exact HB.out | apply bA | apply bN | apply bD | refine bS ?_ (IsS82.ge HI0.out) | refine bS ?_ GE250.out) | exact HB.out)) hb); have BK270 := A0_ (hbox); have GW270 := A0_ ((by rw [hg]; exact (keep_size (w := w) (g := g) (row := none) (by repeat (first | (with_reducible first | exact HK.out | apply KeepBut.set_ | apply keep_drewN | apply keep_drew | apply keep_alloc | refine keep_far ?_ GW250.out _) | exact HK.out))) : w.heap.size ≤ gb270)); have GE270 := A0_ ((Nat.le_trans HW0.out (by rw [hg]; exact (keep_size (w := w) (g := g) (row := none) (by repeat (first | (with_reducible first | exact HK.out | apply KeepBut.set_ | apply keep_drewN | apply keep_drew | apply keep_alloc | refine keep_far ?_ GW250.out _) | exact HK.out))) : w.heap.size ≤ gb270) : w0.heap.size ≤ gb270)); replace HK := A0_ (KeepBut.trans (by repeat (first | (with_reducible first | exact HK.out | apply KeepBut.set_ | apply keep_drewN | apply keep_drew | apply keep_alloc | refine keep_far ?_ GW250.out _) | exact HK.out)) (KeepBut.of_below hb g none) (.inl rfl)); have NB250_270 := zL hg BK250; have NB270_250 := zM hg BK250; replace BK250 := zK BK250 hb; have NB0_270 := A0_ ((by rw [hg]; exact Nat.ne_of_lt (IsS82.lt (show IsS82 w0 _ g s0_0 t269 from by repeat (first | (with_reducible first | exact HI0.out | apply IsS82.alloc | apply IsS82.drewN | apply IsS82.drew | apply IsS82.set_1 | refine IsS82.far ?_ NB0_250.out _) | exact HI0.out))) : g ≠ gb270)); have NB270_0 := A0_ ((by rw [hg]; exact Nat.ne_of_gt (IsS82.lt (show IsS82 w0 _ g s0_0 t269 from by repeat (first | (with_reducible first | exact HI0.out | apply IsS82.alloc | apply IsS82.drewN | apply IsS82.drew | apply IsS82.set_1 | refine IsS82.far ?_ NB0_250.out _) | exact HI0.out))) : gb270 ≠ g)); replace HI0 := A0_ (IsS82.below (by repeat (first | (with_reducible first | exact HI0.out | apply IsS82.alloc | apply IsS82.drewN | apply IsS82.drew | apply IsS82.set_1 | refine IsS82.far ?_ NB0_250.out _) | exact HI0.out)) hb); clear hb hbox hg; have hnb36 := NB270_250.out; have hnc36 := NB250_270.out; have hnb37 := NB270_0.out; have hnc37 := NB0_270.out; have hcz38_0 := zc0 BK270; have hcz38_1 := zc1 BK270; have hfz38_0 := kF BK270.out 0; have hfz38_1 := kF BK270.out 1))
     go_loopg [10] k1 (fun kq v10 w' => ∃ (x10_2 : Int) (x271000_2 : List Int) (x271001_2 : List Int) (u271000 : Value) (u271001 : Value), v10 = .int .i64 x10_2 ∧ Aside0 (spec_l91Map.l1 kq ji5 x10_2 s0_0 t269 x271000_2 x271001_2 = some (r1, r2, r3)) ∧ Aside0 (kq ≤ k1) ∧ Aside0 (Kd.Q (Kd.int .i64) 3 w' w.heap.size (fun k_ => some k_ ≠ (u271001 : Value).ownBlock) u271000 x271000_2) ∧ Aside0 (Kd.R (Kd.int .i64) 3 w' w.heap.size (fun k_ => some k_ ≠ (u271000 : Value).ownBlock) u271001 x271001_2) ∧ Aside0 (w'.heap[gb250]? = some (.cells #[(.slice none 0 0), (.slice none 0 0)] 25 (0, 0))) ∧ Aside0 (w'.heap[gb270]? = some (.cells #[u271000, u271001] 25 (0, 0))) ∧ Aside0 (IsS82 w0 w' g s0_0 t269) ∧ Aside0 (KeepBut w w' g none) ∧ Aside0 (Below w0.heap.size w0 w'))
     case atStart => exact ⟨(0), (t266), (x7_1), (.slice Ao34 t266.length co34), (.slice Ao33 x7_1.length co33), zt, H', ⟨Nat.le_refl _⟩, ⟨Kd.Q_of_R (by (with_reducible repeat (first | apply rA | apply rN | apply rD)); exact rM (rF (p := ⟨gb270, 1, none⟩) (rF (p := ⟨gb270, 0, none⟩) (rY HO268.out BK270.out (by decide)) (fun _ hk => hk.2) (.slice Ao34 t266.length co34)) (fun _ hk => hk.2) (.slice Ao33 x7_1.length co33)) (fun _ hk => hk.1.2))⟩, ⟨by (with_reducible repeat (first | apply rA | apply rN | apply rD)); exact rM (rF (p := ⟨gb270, 1, none⟩) (rF (p := ⟨gb270, 0, none⟩) (rY HO_7.out BK270.out (by decide)) (fun _ hk => hk.2) (.slice Ao34 t266.length co34)) (fun _ hk => hk.2) (.slice Ao33 x7_1.length co33)) (fun _ hk => hk.1.2)⟩, ⟨by (with_reducible repeat (first | refine kN ?_ _ | refine kD ?_ | refine kA ?_ _)); refine blk_far ?_ NB250_270.out _; (with_reducible repeat (first | refine kN ?_ _ | refine kD ?_ | refine kA ?_ _)); refine blk_far ?_ NB250_270.out _; (with_reducible repeat (first | refine kN ?_ _ | refine kD ?_ | refine kA ?_ _)); exact BK250.out⟩, ⟨by (with_reducible repeat (first | refine kN ?_ _ | refine kD ?_ | refine kA ?_ _)); refine blk_put (cs := #[.slice Ao34 t266.length co34, .slice none 0 0]) ?_ 1 _ rfl; (with_reducible repeat (first | refine kN ?_ _ | refine kD ?_ | refine kA ?_ _)); refine blk_put (cs := #[.slice none 0 0, .slice none 0 0]) ?_ 0 _ rfl; (with_reducible repeat (first | refine kN ?_ _ | refine kD ?_ | refine kA ?_ _)); exact BK270.out⟩, ⟨by repeat (first | (with_reducible first | exact HI0.out | apply IsS82.alloc | apply IsS82.drewN | apply IsS82.drew | apply IsS82.set_1 | refine IsS82.far ?_ NB0_250.out _ | refine IsS82.far ?_ NB0_270.out _) | exact HI0.out)⟩, ⟨by repeat (first | (with_reducible first | exact HK.out | apply KeepBut.set_ | apply keep_drewN | apply keep_drew | apply keep_alloc | refine keep_far ?_ GW250.out _ | refine keep_far ?_ GW270.out _) | exact HK.out)⟩, ⟨by repeat (first | (with_reducible first | exact HB.out | apply bA | apply bN | apply bD | refine bS ?_ (IsS82.ge HI0.out) | refine bS ?_ GE250.out | refine bS ?_ GE270.out) | exact HB.out)⟩⟩
     case round =>
      clear H'; (try clear c1); (try clear c2); (try clear p2); (try clear q2); (try clear hx2); (try clear hf2); (try clear c3); (try clear c6); (try clear c6b0); (try clear c6b1); (try clear p6); (try clear c7); (try clear c7b0); (try clear c7b1); (try clear c8); (try clear c13); (try clear c13b0); (try clear c14); (try clear c14b0); (try clear c15); (try clear c15b0); (try clear c17); (try clear c17b0); (try clear c18); (try clear c18b0); (try clear c19); (try clear c19b0); (try clear c20); (try clear c20b0); (try clear p21); (try clear q21); (try clear hx21); (try clear hf21); (try clear c22); (try clear c22b0); (try clear c23); (try clear c23b0); (try clear p24); (try clear q24); (try clear hx24); (try clear hf24); (try clear p26); (try clear q26); (try clear hx26); (try clear c36); (try clear c37); (try clear hcz38_0); (try clear hcz38_1); (try clear hfz38_0); (try clear hfz38_1); (try clear hx21_0); (try clear hx24_0); (try clear hx260_0); (try clear hx261_0); (try clear hx263_0); (try clear hx264_0); (try clear p2); (try clear p21); (try clear p24); (try clear p260); (try clear p261); (try clear p263); (try clear p264); (try clear p6); (try clear q21); (try clear q24); (try clear q260); (try clear q261); (try clear q263); (try clear q264); obtain ⟨x10_2, x271000_2, x271001_2, u271000, u271001, rfl, HA, HK2, HO_271000, HO_271001, BK250, BK270, HI0, HK, HB⟩ := hrel
      cases gk with
      | zero => exact absurd HA.out (by simp [spec_l91Map.l1])
      | succ k2 =>
       have H := HA.out; clear HA; simp only [spec_l91Map.l1] at H; have HC39 := A0_ H; clear H
       go_upto_region 11 with (fail)
       go_cut [64] (fun v64 wc => ∃ (kq : Nat) (x64_38 : Bool), v64 = .bool x64_38 ∧ Aside0 (spec_l91Map.j2 kq ji5 x10_2 x64_38 s0_0 t269 x271000_2 x271001_2 = some (r1, r2, r3)) ∧ Aside0 (kq ≤ k2) ∧ Aside0 (Kd.Q (Kd.int .i64) 3 wc w.heap.size (fun k_ => some k_ ≠ (u271001 : Value).ownBlock) u271000 x271000_2) ∧ Aside0 (Kd.R (Kd.int .i64) 3 wc w.heap.size (fun k_ => some k_ ≠ (u271000 : Value).ownBlock) u271001 x271001_2) ∧ Aside0 (wc.heap[gb250]? = some (.cells #[(.slice none 0 0), (.slice none 0 0)] 25 (0, 0))) ∧ Aside0 (wc.heap[gb270]? = some (.cells #[u271000, u271001] 25 (0, 0))) ∧ Aside0 (IsS82 w0 wc g s0_0 t269) ∧ Aside0 (KeepBut w wc g none) ∧ Aside0 (Below w0.heap.size w0 wc))
       case first =>
        have H := HC39.out; clear HC39
        by_cases c40 : x10_2 < ji5
        ·rw [if_pos c40] at H
         have c40b0 := dT c40; clear c40
         (first | rw [c40b0] | (simp only [i64_w, i32_w]; rw [c40b0]) | skip)
         obtain ⟨t271, A41, H⟩ := zbind H; have H' := A0_ H; clear H; have hnb42 := NB270_250.out; have hnc42 := NB250_270.out; have hnb43 := NB270_0.out; have hnc43 := NB0_270.out; have hcz44_0 := zc0 BK270; have hcz44_1 := zc1 BK270; have hfz44_0 := kF BK270.out 0; have hfz44_1 := kF BK270.out 1; obtain ⟨Ao45, co45, eo45, _⟩ := Kd.Q_slice HO_271000.out; subst eo45; obtain ⟨Ao46, co46, eo46⟩ := rS HO_271001.out; subst eo46
         go_wp2_with (first | (go_at_call 57; (with_reducible refine (spec_MapValid.calls k2 _ _ x271000_2 _ _ x271001_2 t271 _ ?side1 ?side2 ?side3 ?side4 A41.out).mono ?_); (case side1 => exact zDQ HO_271000); (case side2 => exact (Kd.Q_reads' HO_271000.out).2.1); (case side3 => exact zD HO_271001); (case side4 => exact (rR HO_271001.out).2.1); rintro e w47 ⟨rfl, hb⟩; replace HO_271000 := A0_ (Kd.Q_below (zQ_ HO_271000) hb); replace HO_271001 := zR HO_271001 hb; replace BK250 := zK BK250 hb; replace BK270 := zK BK270 hb; replace HK := A0_ (KeepBut.trans (by repeat (first | (with_reducible first | exact HK.out | apply KeepBut.set_ | apply keep_drewN | apply keep_drew | apply keep_alloc | refine keep_far ?_ GW250.out _ | refine keep_far ?_ GW270.out _) | exact HK.out)) (KeepBut.of_below hb g none) (.inl rfl)); replace HB := A0_ (bT (by repeat (first | (with_reducible first | exact HB.out | apply bA | apply bN | apply bD | refine bS ?_ (IsS82.ge HI0.out) | refine bS ?_ GE250.out | refine bS ?_ GE270.out) | exact HB.out)) hb); replace HI0 := A0_ (IsS82.below (by repeat (first | (with_reducible first | exact HI0.out | apply IsS82.alloc | apply IsS82.drewN | apply IsS82.drew | apply IsS82.set_1 | refine IsS82.far ?_ NB0_250.out _ | refine IsS82.far ?_ NB0_270.out _) | exact HI0.out)) hb); (try clear hb)))
         go_meet
         case rel => exact ⟨_, (!t271), zt, H', ⟨by have := HK1.out; have := HK2.out; first | omega | exact Nat.le_refl _⟩, ⟨zQ_ HO_271000⟩, ⟨zR_ HO_271001⟩, ⟨zK_ BK250⟩, ⟨zK_ BK270⟩, ⟨by repeat (first | (with_reducible first | exact HI0.out | apply IsS82.alloc | apply IsS82.drewN | apply IsS82.drew | apply IsS82.set_1 | refine IsS82.far ?_ NB0_250.out _ | refine IsS82.far ?_ NB0_270.out _) | exact HI0.out)⟩, ⟨by repeat (first | (with_reducible first | exact HK.out | apply KeepBut.set_ | apply keep_drewN | apply keep_drew | apply keep_alloc | refine keep_far ?_ GW250.out _ | refine keep_far ?_ GW270.out _) | exact HK.out)⟩, ⟨by repeat (first | (with_reducible first | exact HB.out | apply bA | apply bN | apply bD | refine bS ?_ (IsS82.ge HI0.out) | refine bS ?_ GE250.out | refine bS ?_ GE270.out) | exact HB.out)⟩⟩
        rw [if_neg c40] at H; have c40b0 := dF c40; clear c40
        (first | rw [c40b0] | (simp only [i64_w, i32_w]; rw [c40b0]) | skip)
        have H' := A0_ H; clear H
        go_wp2
        go_meet
        case rel => exact ⟨_, (false), zt, H', ⟨by have := HK1.out; have := HK2.out; first | omega | exact Nat.le_refl _⟩, ⟨zQ_ HO_271000⟩, ⟨zR_ HO_271001⟩, ⟨zK_ BK250⟩, ⟨zK_ BK270⟩, ⟨by repeat (first | (with_reducible first | exact HI0.out | apply IsS82.alloc | apply IsS82.drewN | apply IsS82.drew | apply IsS82.set_1 | refine IsS82.far ?_ NB0_250.out _ | refine IsS82.far ?_ NB0_270.out _) | exact HI0.out)⟩, ⟨by repeat (first | (with_reducible first | exact HK.out | apply KeepBut.set_ | apply keep_drewN | apply keep_drew | apply keep_alloc | refine keep_far ?_ GW250.out _ | refine keep_far ?_ GW270.out _) | exact HK.out)⟩, ⟨by repeat (first | (with_reducible first | exact HB.out | apply bA | apply bN | apply bD | refine bS ?_ (IsS82.ge HI0.out) | refine bS ?_ GE250.out | refine bS ?_ GE270.out) | exact HB.out)⟩⟩
       case rest =>
        clear HC39; (try clear c1); (try clear c2); (try clear p2); (try clear q2); (try clear hx2); (try clear hf2); (try clear c3); (try clear c4); (try clear c6); (try clear c6b0); (try clear c6b1); (try clear p6); (try clear c7); (try clear c7b0); (try clear c7b1); (try clear c8); (try clear c13); (try clear c13b0); (try clear c14); (try clear c14b0); (try clear c15); (try clear c15b0); (try clear c17); (try clear c17b0); (try clear c18); (try clear c18b0); (try clear c19); (try clear c19b0); (try clear c20); (try clear c20b0); (try clear p21); (try clear q21); (try clear hx21); (try clear hf21); (try clear c22); (try clear c22b0); (try clear c23); (try clear c23b0); (try clear p24); (try clear q24); (try clear hx24); (try clear hf24); (try clear p26); (try clear q26); (try clear hx26); (try clear c36); (try clear c37); (try clear c40); (try clear c40b0); (try clear c42); (try clear c43); (try clear hcz38_0); (try clear hcz38_1); (try clear hcz44_0); (try clear hcz44_1); (try clear hfz38_0); (try clear hfz38_1); (try clear hfz44_0); (try clear hfz44_1); (try clear hx21_0); (try clear hx24_0); (try clear hx260_0); (try clear hx261_0); (try clear hx263_0); (try clear hx264_0); (try clear p2); (try clear p21); (try clear p24); (try clear p26); (try clear p260); (try clear p261); (try clear p263); (try clear p264); (try clear p6); (try clear q2); (try clear q21); (try clear q24); (try clear q26); (try clear q260); (try clear q261); (try clear q263); (try clear q264); obtain ⟨kq, x64_38, rfl, HA, HJ38, HO_271000, HO_271001, BK250, BK270, HI0, HK, HB⟩ := hcut
        cases kq with
        | zero => exact absurd HA.out (by simp [spec_l91Map.j2])
        | succ kj38 =>
         have H := HA.out; clear HA; simp only [spec_l91Map.j2] at H
         by_cases c48 : x64_38 = true
         ·subst c48
          have H1 : ((spec_l1Orbits.f kj38 x271000_2 x271001_2).bind fun t272 => (spec_l91Map.l2 kj38 ji5 x10_2 t272 0 s0_0 t269 x271000_2 x271001_2)) = some (r1, r2, r3) := by rw [if_pos rfl] at H; exact H
          clear H; have H := H1; clear H1; obtain ⟨t272, A49, H⟩ := zbind H; have H' := A0_ H; clear H; have hnb50 := NB270_250.out; have hnc50 := NB250_270.out; have hnb51 := NB270_0.out; have hnc51 := NB0_270.out; have hcz52_0 := zc0 BK270; have hcz52_1 := zc1 BK270; have hfz52_0 := kF BK270.out 0; have hfz52_1 := kF BK270.out 1; obtain ⟨Ao53, co53, eo53, _⟩ := Kd.Q_slice HO_271000.out; subst eo53; obtain ⟨Ao54, co54, eo54⟩ := rS HO_271001.out; subst eo54
          go_wp2_with (first | ((with_reducible refine gC (f := 103) rfl ?_); refine zJ (some 71) Try.func103 #[.slice Ao53 x271000_2.length co53, .slice Ao54 x271001_2.length co54] ?_; (with_reducible refine (spec_l1Orbits.calls kj38 _ _ x271000_2 _ _ x271001_2 t272 _ ?side1 ?side2 ?side3 ?side4 A49.out).mono ?_); (case side1 => exact zDQ HO_271000); (case side2 => exact (Kd.Q_reads' HO_271000.out).2.1); (case side3 => exact zD HO_271001); (case side4 => exact (rR HO_271001.out).2.1); rintro e w55 ⟨v273, rfl, ho0, hb⟩; refine ⟨_, rfl, ?_⟩; have HO274 := A0_ (rL (Kd.R_new' (Kd.R_new' ho0 (Kd.Q_lt (zQ_ HO_271000))) (rX (zR_ HO_271001))) (keep_size (w := w) (g := g) (row := none) (by repeat (first | (with_reducible first | exact HK.out | apply KeepBut.set_ | apply keep_drewN | apply keep_drew | apply keep_alloc | refine keep_far ?_ GW250.out _ | refine keep_far ?_ GW270.out _) | exact HK.out)))); replace HO_271000 := A0_ (Kd.Q_elder' (zQ_ HO_271000) (Kd.R_base ho0) hb); replace HO_271001 := A0_ (Kd.R_elder' (zR_ HO_271001) (Kd.R_base ho0) hb); replace BK250 := zK BK250 hb; replace BK270 := zK BK270 hb; replace HK := A0_ (KeepBut.trans (by repeat (first | (with_reducible first | exact HK.out | apply KeepBut.set_ | apply keep_drewN | apply keep_drew | apply keep_alloc | refine keep_far ?_ GW250.out _ | refine keep_far ?_ GW270.out _) | exact HK.out)) (KeepBut.of_below hb g none) (.inl rfl)); replace HB := A0_ (bT (by repeat (first | (with_reducible first | exact HB.out | apply bA | apply bN | apply bD | refine bS ?_ (IsS82.ge HI0.out) | refine bS ?_ GE250.out | refine bS ?_ GE270.out) | exact HB.out)) hb); replace HI0 := A0_ (IsS82.below (by repeat (first | (with_reducible first | exact HI0.out | apply IsS82.alloc | apply IsS82.drewN | apply IsS82.drew | apply IsS82.set_1 | refine IsS82.far ?_ NB0_250.out _ | refine IsS82.far ?_ NB0_270.out _) | exact HI0.out)) hb); (try clear hb); (try clear ho0)))
          go_loopg [12] kj38 (fun kq v12 w' => ∃ (x12_4 : Int), v12 = .int .i64 x12_4 ∧ Aside0 (spec_l91Map.l2 kq ji5 x10_2 t272 x12_4 s0_0 t269 x271000_2 x271001_2 = some (r1, r2, r3)) ∧ Aside0 (kq ≤ kj38) ∧ Aside0 (Kd.R (Kd.int .i64) 3 w' w.heap.size (fun k_ => some k_ ≠ ((.slice Ao53 x271000_2.length co53) : Value).ownBlock ∧ some k_ ≠ ((.slice Ao54 x271001_2.length co54) : Value).ownBlock) v273 t272) ∧ Aside0 (Kd.Q (Kd.int .i64) 3 w' w.heap.size (fun k_ => some k_ ≠ (v273 : Value).ownBlock ∧ some k_ ≠ ((.slice Ao54 x271001_2.length co54) : Value).ownBlock) (.slice Ao53 x271000_2.length co53) x271000_2) ∧ Aside0 (Kd.R (Kd.int .i64) 3 w' w.heap.size (fun k_ => some k_ ≠ (v273 : Value).ownBlock ∧ some k_ ≠ ((.slice Ao53 x271000_2.length co53) : Value).ownBlock) (.slice Ao54 x271001_2.length co54) x271001_2) ∧ Aside0 (w'.heap[gb250]? = some (.cells #[(.slice none 0 0), (.slice none 0 0)] 25 (0, 0))) ∧ Aside0 (w'.heap[gb270]? = some (.cells #[(.slice Ao53 x271000_2.length co53), (.slice Ao54 x271001_2.length co54)] 25 (0, 0))) ∧ Aside0 (IsS82 w0 w' g s0_0 t269) ∧ Aside0 (KeepBut w w' g none) ∧ Aside0 (Below w0.heap.size w0 w'))
          case atStart => exact ⟨(0), zt, H', ⟨Nat.le_refl _⟩, ⟨zmR HO274 (fun _ hk => ⟨hk.1.2, hk.2⟩)⟩, ⟨zmQ HO_271000 (fun _ hk => ⟨hk.2, hk.1⟩)⟩, ⟨zmR HO_271001 (fun _ hk => ⟨hk.2, hk.1⟩)⟩, ⟨zK_ BK250⟩, ⟨zK_ BK270⟩, ⟨by repeat (first | (with_reducible first | exact HI0.out | apply IsS82.alloc | apply IsS82.drewN | apply IsS82.drew | apply IsS82.set_1 | refine IsS82.far ?_ NB0_250.out _ | refine IsS82.far ?_ NB0_270.out _) | exact HI0.out)⟩, ⟨by repeat (first | (with_reducible first | exact HK.out | apply KeepBut.set_ | apply keep_drewN | apply keep_drew | apply keep_alloc | refine keep_far ?_ GW250.out _ | refine keep_far ?_ GW270.out _) | exact HK.out)⟩, ⟨by repeat (first | (with_reducible first | exact HB.out | apply bA | apply bN | apply bD | refine bS ?_ (IsS82.ge HI0.out) | refine bS ?_ GE250.out | refine bS ?_ GE270.out) | exact HB.out)⟩⟩
          case round =>
           clear H'; (try clear c1); (try clear c2); (try clear p2); (try clear q2); (try clear hx2); (try clear hf2); (try clear c3); (try clear c4); (try clear c5); (try clear c6); (try clear c6b0); (try clear c6b1); (try clear p6); (try clear c7); (try clear c7b0); (try clear c7b1); (try clear c8); (try clear c10); (try clear c13); (try clear c13b0); (try clear c14); (try clear c14b0); (try clear c15); (try clear c15b0); (try clear c17); (try clear c17b0); (try clear c18); (try clear c18b0); (try clear c19); (try clear c19b0); (try clear c20); (try clear c20b0); (try clear p21); (try clear q21); (try clear hx21); (try clear hf21); (try clear c22); (try clear c22b0); (try clear c23); (try clear c23b0); (try clear p24); (try clear q24); (try clear hx24); (try clear hf24); (try clear p26); (try clear q26); (try clear hx26); (try clear c36); (try clear c37); (try clear c40); (try clear c40b0); (try clear c42); (try clear c43); (try clear c48); (try clear c50); (try clear c51); (try clear hcz38_0); (try clear hcz38_1); (try clear hcz44_0); (try clear hcz44_1); (try clear hcz52_0); (try clear hcz52_1); (try clear hfz38_0); (try clear hfz38_1); (try clear hfz44_0); (try clear hfz44_1); (try clear hfz52_0); (try clear hfz52_1); (try clear hx21_0); (try clear hx24_0); (try clear hx260_0); (try clear hx261_0); (try clear hx263_0); (try clear hx264_0); (try clear p2); (try clear p21); (try clear p24); (try clear p26); (try clear p260); (try clear p261); (try clear p263); (try clear p264); (try clear p6); (try clear q2); (try clear q21); (try clear q24); (try clear q26); (try clear q260); (try clear q261); (try clear q263); (try clear q264); obtain ⟨x12_4, rfl, HA, HK4, HO_11, HO_271000, HO_271001, BK250, BK270, HI0, HK, HB⟩ := hrel
           cases gk with
           | zero => exact absurd HA.out (by simp [spec_l91Map.l2])
           | succ k4 =>
            have H := HA.out; clear HA; simp only [spec_l91Map.l2] at H
            by_cases c56 : 0 ≤ x12_4
            ·rw [if_pos c56] at H
             have c56b0 := dT c56; clear c56
             by_cases c57 : x12_4 < (t272.length : Int)
             ·rw [if_pos c57] at H
              have c57b0 := dT c57; clear c57
              by_cases c58 : (rd t272 x12_4) = 0
              ·rw [if_pos c58] at H
               have c58b0 : ((rd t272 x12_4) == 0) = true := beq_iff_eq.mpr c58
               have c58b1 : ((rd t272 x12_4) != 0) = false := bne_eq_false_iff_eq.mpr c58
               clear c58; have H' := A0_ H; clear H; obtain ⟨Ao59, co59, eo59⟩ := rS HO_11.out; subst eo59
               have p275 : 0 ≤ (x12_4 : Int) := zd
               have q275 : x12_4 < (t272.length : Int) := zd
               obtain ⟨ad275, e275, hx275_0⟩ := tI (rR HO_11.out).2.2 x12_4 p275 q275
               cases e275
               replace p275 := eq_true p275; replace q275 := eq_true q275
               go_wp2
               go_roundg k4
               case measure => have := HK1.out; have := HK2.out; have := HJ38.out; have := HK4.out; omega
               case rel => exact ⟨(wrap64 (x12_4 + 1)), zt, H', ⟨by have := HK1.out; have := HK2.out; have := HJ38.out; have := HK4.out; omega⟩, ⟨zR_ HO_11⟩, ⟨zQ_ HO_271000⟩, ⟨zR_ HO_271001⟩, ⟨zK_ BK250⟩, ⟨zK_ BK270⟩, ⟨by repeat (first | (with_reducible first | exact HI0.out | apply IsS82.alloc | apply IsS82.drewN | apply IsS82.drew | apply IsS82.set_1 | refine IsS82.far ?_ NB0_250.out _ | refine IsS82.far ?_ NB0_270.out _) | exact HI0.out)⟩, ⟨by repeat (first | (with_reducible first | exact HK.out | apply KeepBut.set_ | apply keep_drewN | apply keep_drew | apply keep_alloc | refine keep_far ?_ GW250.out _ | refine keep_far ?_ GW270.out _) | exact HK.out)⟩, ⟨by repeat (first | (with_reducible first | exact HB.out | apply bA | apply bN | apply bD | refine bS ?_ (IsS82.ge HI0.out) | refine bS ?_ GE250.out | refine bS ?_ GE270.out) | exact HB.out)⟩⟩
              rw [if_neg c58] at H
              have c58b0 : ((rd t272 x12_4) == 0) = false := beq_eq_false_iff_ne.mpr c58
              have c58b1 : ((rd t272 x12_4) != 0) = true := bne_iff_ne.mpr c58
              by_cases c60 : 0 < (x271000_2.length : Int)
              ·rw [if_pos c60] at H
               have c60b0 := dT c60
               have c60b1 : decide (0 < x271000_2.length) = true := dT (by omega)
               clear c60
               by_cases c61 : x12_4 < (x271000_2.length : Int)
               ·rw [if_pos c61] at H
                have c61b0 := dT c61; clear c61
                obtain ⟨y278, hy278⟩ : ∃ y_ : List Int, y_ = (x271000_2.set (0 : Int).toNat (rd x271000_2 x12_4)) := ⟨_, rfl⟩
                replace H : (spec_l91Map.l1 k4 ji5 (wrap64 (x10_2 + 1)) s0_0 t269 (y278.set (x12_4 : Int).toNat (rd x271000_2 0)) x271001_2) = some (r1, r2, r3) := zH hy278 H
                have Ny278 := A0_ hy278; clear hy278
                obtain ⟨y279, hy279⟩ : ∃ y_ : List Int, y_ = (y278.set (x12_4 : Int).toNat (rd x271000_2 0)) := ⟨_, rfl⟩
                replace H : (spec_l91Map.l1 k4 ji5 (wrap64 (x10_2 + 1)) s0_0 t269 y279 x271001_2) = some (r1, r2, r3) := zH hy279 H
                have Ny279 := A0_ hy279; clear hy279; have H' := A0_ H; clear H; obtain ⟨Ao64, co64, eo64⟩ := rS HO_11.out; subst eo64
                have p275 : 0 ≤ (x12_4 : Int) := zd
                have q275 : x12_4 < (t272.length : Int) := zd
                obtain ⟨ad275, e275, hx275_0⟩ := tI (rR HO_11.out).2.2 x12_4 p275 q275
                cases e275
                replace p275 := eq_true p275; replace q275 := eq_true q275; have hnb65 := NB270_250.out; have hnc65 := NB250_270.out; have hnb66 := NB270_0.out; have hnc66 := NB0_270.out; have hcz67_0 := zc0 BK270; have hcz67_1 := zc1 BK270; have hfz67_0 := kF BK270.out 0; have hfz67_1 := kF BK270.out 1
                have p276 : 0 ≤ (0 : Int) := (by omega)
                have q276 : 0 < (x271000_2.length : Int) := zd
                obtain ⟨ad276, e276, hx276_0⟩ := tI (Kd.Q_reads' HO_271000.out).2.2 0 p276 q276
                cases e276
                have qi276 : (0 < x271000_2.length) = True := eq_true (by omega)
                (try rw [show ((0 : Int)).toNat = 0 from rfl] at hx276_0)
                (try rw [Addr.add_zero'] at hx276_0)
                replace p276 := eq_true p276; replace q276 := eq_true q276
                try go_wp2
                replace HO_11 := A0_ (rD HO_11.out)
                replace HO_271000 := A0_ (Kd.Q_drew HO_271000.out)
                replace HO_271001 := A0_ (rD HO_271001.out)
                replace BK250 := A0_ (kD BK250.out)
                replace BK270 := A0_ (kD BK270.out)
                replace HI0 := A0_ (IsS82.drew HI0.out)
                replace HK := A0_ (keep_drew HK.out)
                replace HB := A0_ (bD HB.out)
                have p277 : 0 ≤ (x12_4 : Int) := zd
                have q277 : x12_4 < (x271000_2.length : Int) := zd
                obtain ⟨ad277, e277, hx277_0⟩ := tI (Kd.Q_reads' HO_271000.out).2.2 x12_4 p277 q277
                obtain rfl : ad276 = ad277 := (by injection e277)
                replace p277 := eq_true p277; replace q277 := eq_true q277
                have p62 : 0 ≤ (0 : Int) := (by omega)
                have q62 : (0 : Int) < ((x271000_2.length : Int) : Int) := zd
                have qi62 : (0 < x271000_2.length) = True := eq_true (by omega)
                obtain ⟨go62, oo62, co62, eo62, gb62, gl62, cl62, HG62⟩ := Kd.Q_form HO_271000.out (by omega)
                (first | cases eo62 | (injection eo62 with ea_ en_ ec_; (first | subst ea_ | (injection ea_ with ea_; subst ea_)); subst ec_; clear en_))
                have GB62 := A0_ gb62; have GG62 := A0_ HG62; clear gb62 gl62 HG62
                (first | simp only [add_at] at hx276_0 | skip)
                (first | simp only [add_at] at hx277_0 | skip)
                obtain ⟨hx62_0, hf62_0⟩ := Kd.Q_cell 0 HO_271000.out (0 : Int) p62 q62
                (try rw [show ((0 : Int)).toNat = 0 from rfl] at hx62_0)
                (try simp only [Nat.reduceMul, Nat.zero_mul, Nat.zero_add, Nat.add_zero, Nat.reduceAdd] at hx62_0)
                (try rw [show ((0 : Int)).toNat = 0 from rfl] at hf62_0)
                (try simp only [Nat.reduceMul, Nat.zero_mul, Nat.zero_add, Nat.add_zero, Nat.reduceAdd] at hf62_0)
                replace p62 := eq_true p62; replace q62 := eq_true q62
                have HN0_go62 := A0_ (show g ≠ go62 from by have h_ := IsS82.own_neQ HI0.out HO_271000.out (by decide); intro e_; exact h_ (by rw [e_]; rfl))
                have HP69 := (Kd.Q_putg HO_271000.out (0 : Int) (by omega) (by have h_ : (0 : Int) < ((x271000_2.length : Int) : Int) := zd; first | exact h_ | (have e_ := (Kd.Q_reads' HO_271000.out).1; omega) | simpa using h_) (rd x271000_2 x12_4)).1
                rw [← Ny278.out] at HP69
                have HQ69 := A0_ HP69; clear HP69
                refine start_ (n := 9) (S := fun w' => w'.cell? ⟨gb270, 0, none⟩ = some (.slice (some ⟨go62, oo62, none⟩) x271000_2.length co53) ∧ w'.cell? ⟨gb270, 1, none⟩ = some (.slice Ao54 x271001_2.length co54) ∧ w'.cell? ⟨go62, oo62 + (x12_4).toNat, none⟩ = some (.int .i64 (rd x271000_2 x12_4))) (ds := [8]) #[false, false, false, false, false, false, false, false, false] (by kernel_rfl) rfl rfl ⟨(kC BK270.out 0).trans rfl, (kC BK270.out 1).trans rfl, hx277_0⟩ (fun hHeld => ?_); refine with_tabW spec_l91Map.tab18 spec_l91Map.bits18 (fun HT_ HW_ => ?_)
                generalize wr.drew = w68 at HO_11 HO_271000 HO_271001 BK250 BK270 HI0 HK HB GG62 HQ69 hf62_0 hx276_0 hx277_0 hx62_0 hHeld ⊢
                refine zP 0 (some 83) #[true,false,false,false,false,false,false,false,false] ?_
                refine zP 2 (some 85) #[true,false,true,false,false,false,false,false,false] ?_
                refine zP 4 (some 87) #[true,false,true,false,true,false,false,false,false] ?_
                refine take_ (i := 1) (N := some 84) (v := ?_) (a' := ?_) #[true, true, true, false, true, false, false, false, false] rfl rfl (take_ofW HT_.out HW_.out (by kernel_rfl)) (fun _ _ _ h => h) (Or.inl ⟨by rfl, ?_⟩) hHeld ?_ ?_
                rotate_left
                ·rintro w' ⟨s0, s1, s2⟩
                 go_simp
                 with_reducible rfl
                rotate_left
                ·simp only [Act.put, List.setIfInBounds_toArray, List.set_cons_zero, List.set_cons_succ, i64_w, i32_w]
                 rfl
                refine take_ (i := 3) (N := some 86) (v := ?_) (a' := ?_) #[true, true, true, true, true, false, false, false, false] rfl rfl (take_ofW HT_.out HW_.out (by kernel_rfl)) (fun _ _ _ h => h) (Or.inl ⟨by rfl, ?_⟩) hHeld ?_ ?_
                rotate_left
                ·rintro w' ⟨s0, s1, s2⟩
                 go_simp
                 with_reducible rfl
                rotate_left
                ·simp only [Act.put, List.setIfInBounds_toArray, List.set_cons_zero, List.set_cons_succ, i64_w, i32_w]
                 rfl
                refine zP 5 (some 88) #[true,true,true,true,true,true,false,false,false] ?_
                refine take_ (i := 6) (N := some 89) (v := ?_) (a' := ?_) #[true, true, true, true, true, true, true, false, false] rfl rfl (take_ofW HT_.out HW_.out (by kernel_rfl)) (fun _ _ _ h => h) (Or.inl ⟨by rfl, ?_⟩) hHeld ?_ ?_
                rotate_left
                ·rintro w' ⟨s0, s1, s2⟩
                 go_simp
                 with_reducible rfl
                rotate_left
                ·simp only [Act.put, List.setIfInBounds_toArray, List.set_cons_zero, List.set_cons_succ, i64_w, i32_w]
                 rfl
                refine zP 7 (some 90) #[true,true,true,true,true,true,true,true,false] ?_
                refine last_ (i := 8) (N := none) #[true, true, true, true, true, true, true, true, true] rfl rfl (one_of HT_.out (by kernel_rfl)) (by decide) (fun K hK => ?_)
                refine skip_ (w1 := ?_) (by rfl) rfl ?_ ?_
                rotate_left
                ·go_simp
                 rfl
                refine hK.out _ _ ?_
                clear hK K
                refine done_ (done_of HT_.out (by kernel_rfl)) ?_
                have n0_ : Aside0 (Kd.R (Kd.int .i64) 3 (w68.setCell ⟨go62, oo62, none⟩ (.int .i64 (rd x271000_2 x12_4))) w.heap.size (fun k_ => some k_ ≠ (.slice (some ⟨go62, oo62, none⟩) x271000_2.length co53 : Value).ownBlock ∧ some k_ ≠ (.slice Ao54 x271001_2.length co54 : Value).ownBlock) (.slice (some ad275) t272.length co64) t272) := ⟨by (with_reducible repeat (first | apply rA | apply rN | apply rD)); exact rM (rF (p := ⟨go62, oo62, none⟩) (rM HO_11.out (fun k_ hk => (⟨hk, fun e_ => hk.1 (by rw [e_]; rfl)⟩ : _ ∧ k_ ≠ go62))) (fun _ hk => hk.2) (.int .i64 (rd x271000_2 x12_4))) (fun _ hk => ⟨hk.1.1, hk.1.2⟩)⟩
                have n1_ : Aside0 (Kd.Q (Kd.int .i64) 3 (w68.setCell ⟨go62, oo62, none⟩ (.int .i64 (rd x271000_2 x12_4))) w.heap.size (fun k_ => some k_ ≠ (.slice (some ad275) t272.length co64 : Value).ownBlock ∧ some k_ ≠ (.slice Ao54 x271001_2.length co54 : Value).ownBlock) (.slice (some ⟨go62, oo62, none⟩) x271000_2.length co53) y278) := ⟨zQ_ HQ69⟩
                have n2_ : Aside0 (Kd.R (Kd.int .i64) 3 (w68.setCell ⟨go62, oo62, none⟩ (.int .i64 (rd x271000_2 x12_4))) w.heap.size (fun k_ => some k_ ≠ (.slice (some ad275) t272.length co64 : Value).ownBlock ∧ some k_ ≠ (.slice (some ⟨go62, oo62, none⟩) x271000_2.length co53 : Value).ownBlock) (.slice Ao54 x271001_2.length co54) x271001_2) := ⟨by (with_reducible repeat (first | apply rA | apply rN | apply rD)); exact rM (rF (p := ⟨go62, oo62, none⟩) (rM HO_271001.out (fun k_ hk => (⟨hk, fun e_ => hk.2 (by rw [e_]; rfl)⟩ : _ ∧ k_ ≠ go62))) (fun _ hk => hk.2) (.int .i64 (rd x271000_2 x12_4))) (fun _ hk => ⟨hk.1.1, hk.1.2⟩)⟩
                have n3_ : Aside0 ((w68.setCell ⟨go62, oo62, none⟩ (.int .i64 (rd x271000_2 x12_4))).heap[gb250]? = some (.cells #[.slice none 0 0, .slice none 0 0] 25 (0, 0))) := ⟨by (with_reducible repeat (first | refine kN ?_ _ | refine kD ?_ | refine kA ?_ _)); refine blk_far ?_ (by have h_ := Kd.Q_ne HO_271000.out BK250.out (by decide); intro e_; exact h_ (by rw [e_]; rfl)) _; (with_reducible repeat (first | refine kN ?_ _ | refine kD ?_ | refine kA ?_ _)); exact BK250.out⟩
                have n4_ : Aside0 ((w68.setCell ⟨go62, oo62, none⟩ (.int .i64 (rd x271000_2 x12_4))).heap[gb270]? = some (.cells #[.slice (some ⟨go62, oo62, none⟩) x271000_2.length co53, .slice Ao54 x271001_2.length co54] 25 (0, 0))) := ⟨by (with_reducible repeat (first | refine kN ?_ _ | refine kD ?_ | refine kA ?_ _)); refine blk_far ?_ (by have h_ := Kd.Q_ne HO_271000.out BK270.out (by decide); intro e_; exact h_ (by rw [e_]; rfl)) _; (with_reducible repeat (first | refine kN ?_ _ | refine kD ?_ | refine kA ?_ _)); exact BK270.out⟩
                have n5_ : Aside0 (IsS82 w0 (w68.setCell ⟨go62, oo62, none⟩ (.int .i64 (rd x271000_2 x12_4))) g s0_0 t269) := ⟨by repeat (first | (with_reducible first | exact HI0.out | apply IsS82.alloc | apply IsS82.drewN | apply IsS82.drew | apply IsS82.set_1 | refine IsS82.far ?_ HN0_go62.out _ | refine IsS82.far ?_ NB0_250.out _ | refine IsS82.far ?_ NB0_270.out _) | exact HI0.out)⟩
                have n6_ : Aside0 (KeepBut w (w68.setCell ⟨go62, oo62, none⟩ (.int .i64 (rd x271000_2 x12_4))) g none) := ⟨by repeat (first | (with_reducible first | exact HK.out | apply KeepBut.set_ | apply keep_drewN | apply keep_drew | apply keep_alloc | refine keep_far ?_ GB62.out _ | refine keep_far ?_ GW250.out _ | refine keep_far ?_ GW270.out _) | exact HK.out)⟩
                have n7_ : Aside0 (Below w0.heap.size w0 (w68.setCell ⟨go62, oo62, none⟩ (.int .i64 (rd x271000_2 x12_4)))) := ⟨by repeat (first | (with_reducible first | exact HB.out | apply bA | apply bN | apply bD | refine bS ?_ (Nat.le_trans HL.out GB62.out) | refine bS ?_ (IsS82.ge HI0.out) | refine bS ?_ GE250.out | refine bS ?_ GE270.out) | exact HB.out)⟩
                (try clear HO_11); (try clear HO_271000); (try clear HO_271001); (try clear BK250); (try clear BK270); (try clear HI0); (try clear HK); (try clear HB)
                generalize (w68.setCell ⟨go62, oo62, none⟩ (.int .i64 (rd x271000_2 x12_4))) = w70 at n0_ n1_ n2_ n3_ n4_ n5_ n6_ n7_ ⊢
                have HO_11 := n0_; have HO_271000 := n1_; have HO_271001 := n2_; have BK250 := n3_; have BK270 := n4_; have HI0 := n5_; have HK := n6_; have HB := n7_; clear n0_ n1_ n2_ n3_ n4_ n5_ n6_ n7_; have hcz71_0 := zc0 BK270; have hcz71_1 := zc1 BK270; have hfz71_0 := kF BK270.out 0; have hfz71_1 := kF BK270.out 1
                have p63 : 0 ≤ (x12_4 : Int) := zd
                have q63 : (x12_4 : Int) < ((x271000_2.length : Int) : Int) := zd
                obtain ⟨hx63_0, hf63_0⟩ := Kd.Q_cell 0 HO_271000.out (x12_4 : Int) p63 q63
                replace p63 := eq_true p63; replace q63 := eq_true q63
                obtain ⟨hy72_, hz72_⟩ := Kd.Q_cell 0 HO_271000.out (x12_4 : Int) (zd) (zd)
                have HP72 := Kd.Q_putg HO_271000.out (x12_4 : Int) (zd) (by have h_ : (x12_4 : Int) < ((x271000_2.length : Int) : Int) := zd; first | exact h_ | (have e_ := (Kd.Q_reads' HO_271000.out).1; omega) | simpa using h_) (rd x271000_2 0)
                try go_wp2_with (first | ((with_reducible refine gS (t := 3) (p := 95) rfl ?_); refine store_event (t := 3) (p := 95) (v := ?vo_w73) (w1 := (w70.setCell ⟨go62, oo62 + (x12_4 : Int).toNat, none⟩ (.int .i64 (rd x271000_2 0)))) ?hg ?ho ?hn ?hr ?_; (case ho => rfl); (case hg => rfl); (case hn => rfl); (case hr => first | (go_simp; done) | (go_simp; rfl)); intro w73 hw; have hg : w70.grownBy w73 (some go62) := (by rw [hw]; exact HP72.2); have hp_ : Kd.Q (Kd.int .i64) 3 w73 w.heap.size (fun k_ => some k_ ≠ (.slice (some ad275) t272.length co64 : Value).ownBlock ∧ some k_ ≠ (.slice Ao54 x271001_2.length co54 : Value).ownBlock) (.slice (some ⟨go62, oo62, none⟩) x271000_2.length co53) y279 := (by rw [hw, Ny279.out]; exact HP72.1); clear HP72; replace HO_11 := A0_ (Kd.R_after (v := (.slice (some ⟨go62, oo62, none⟩) x271000_2.length co53)) (v1 := (.slice (some ⟨go62, oo62, none⟩) x271000_2.length co53)) (ok := (fun k_ => some k_ ≠ (.slice Ao54 x271001_2.length co54 : Value).ownBlock)) (zmR HO_11 (fun _ hk => ⟨hk.2, hk.1⟩)) hg (.inl rfl)); replace HO_271001 := A0_ (Kd.R_after (v := (.slice (some ⟨go62, oo62, none⟩) x271000_2.length co53)) (v1 := (.slice (some ⟨go62, oo62, none⟩) x271000_2.length co53)) (ok := (fun k_ => some k_ ≠ (.slice (some ad275) t272.length co64 : Value).ownBlock)) (zR_ HO_271001) hg (.inl rfl)); replace BK250 := A0_ (blk_grown (g := gb250) (o := .cells #[.slice none 0 0, .slice none 0 0] 25 (0, 0)) (zK_ BK250) hg (Kd.Q_ne HO_271000.out BK250.out (by decide))); replace BK270 := A0_ (blk_grown (g := gb270) (o := .cells #[.slice (some ⟨go62, oo62, none⟩) x271000_2.length co53, .slice Ao54 x271001_2.length co54] 25 (0, 0)) (zK_ BK270) hg (Kd.Q_ne HO_271000.out BK270.out (by decide))); replace HI0 := A0_ (IsS82.grown (by repeat (first | (with_reducible first | exact HI0.out | apply IsS82.alloc | apply IsS82.drewN | apply IsS82.drew | apply IsS82.set_1 | refine IsS82.far ?_ NB0_250.out _ | refine IsS82.far ?_ NB0_270.out _) | exact HI0.out)) hg (IsS82.own_neQ HI0.out HO_271000.out (by decide))); replace HB := A0_ ((by rw [hw]; exact bS (HB.out) (Nat.le_trans HL.out GB62.out) : Below w0.heap.size w0 w73)); replace HK := A0_ (KeepBut.trans (by repeat (first | (with_reducible first | exact HK.out | apply KeepBut.set_ | apply keep_drewN | apply keep_drew | apply keep_alloc | refine keep_far ?_ GW250.out _ | refine keep_far ?_ GW270.out _) | exact HK.out)) (KeepBut.of_grown hg g) (Kd.Q_base2 HO_271000.out)); replace HO_271000 := A0_ (hp_); clear hg hw hp_))
                go_roundg k4
                case measure => have := HK1.out; have := HK2.out; have := HJ38.out; have := HK4.out; omega
                case rel => exact ⟨(wrap64 (x10_2 + 1)), (y279), (x271001_2), (.slice (some ⟨go62, oo62, none⟩) x271000_2.length co53), (.slice Ao54 x271001_2.length co54), zt, H', ⟨by have := HK1.out; have := HK2.out; have := HJ38.out; have := HK4.out; omega⟩, ⟨zmQ HO_271000 (fun _ hk => hk.2)⟩, ⟨zmR HO_271001 (fun _ hk => hk.2)⟩, ⟨zK_ BK250⟩, ⟨zK_ BK270⟩, ⟨by repeat (first | (with_reducible first | exact HI0.out | apply IsS82.alloc | apply IsS82.drewN | apply IsS82.drew | apply IsS82.set_1 | refine IsS82.far ?_ NB0_250.out _ | refine IsS82.far ?_ NB0_270.out _) | exact HI0.out)⟩, ⟨by repeat (first | (with_reducible first | exact HK.out | apply KeepBut.set_ | apply keep_drewN | apply keep_drew | apply keep_alloc | refine keep_far ?_ GW250.out _ | refine keep_far ?_ GW270.out _) | exact HK.out)⟩, ⟨by repeat (first | (with_reducible first | exact HB.out | apply bA | apply bN | apply bD | refine bS ?_ (IsS82.ge HI0.out) | refine bS ?_ GE250.out | refine bS ?_ GE270.out) | exact HB.out)⟩⟩
               rw [if_neg c61] at H
               exact absurd H (by simp)
              rw [if_neg c60] at H
              exact absurd H (by simp)
             rw [if_neg c57] at H
             exact absurd H (by simp)
            rw [if_neg c56] at H
            exact absurd H (by simp)
         replace c48 := Bool.eq_false_iff.mpr c48; subst c48
         have H1 : ((spec_l6Rd_pick.f kj38 s0_0 t269 50).bind fun bt280 => (if bt280.1 = 0 then (if 0 < (x271001_2.length : Int) then (some (x271000_2, (x271001_2.set (0 : Int).toNat 0), bt280.2)) else (none)) else (if bt280.1 = 1 then (if 1 ≤ (x271000_2.length : Int) then (some ((x271000_2.drop (1 : Int).toNat), x271001_2, bt280.2)) else (none)) else (if bt280.1 = 2 then (if 0 < (x271000_2.length : Int) then (some ((x271000_2.set (0 : Int).toNat ji5), x271001_2, bt280.2)) else (none)) else (some (x271000_2, x271001_2, bt280.2)))))) = some (r1, r2, r3) := by rw [if_neg (show ¬ (false = true) by decide)] at H; exact H
         clear H; have H := H1; clear H1; obtain ⟨⟨t280, t281⟩, A74, H⟩ := zbind H; dsimp only at H
         by_cases c75 : t280 = 0
         ·rw [if_pos c75] at H
          have c75b0 : (t280 == 0) = true := beq_iff_eq.mpr c75
          have c75b1 : (t280 != 0) = false := bne_eq_false_iff_eq.mpr c75
          clear c75
          by_cases c76 : 0 < (x271001_2.length : Int)
          ·rw [if_pos c76] at H
           have c76b0 := dT c76
           have c76b1 : decide (0 < x271001_2.length) = true := dT (by omega)
           clear c76
           obtain ⟨y282, hy282⟩ : ∃ y_ : List Int, y_ = (x271001_2.set (0 : Int).toNat 0) := ⟨_, rfl⟩
           replace H : (some (x271000_2, y282, t281)) = some (r1, r2, r3) := zH hy282 H
           have Ny282 := A0_ hy282; clear hy282; simp only [Option.some.injEq, Prod.mk.injEq] at H; obtain ⟨rfl, rfl, rfl⟩ := H
           go_wp2_with (first | ((with_reducible refine gC (f := 74) rfl ?_); refine zJ (some 97) Try.func74 #[.pointer (some ⟨g, 0, none⟩), .int .i64 50] ?_; (with_reducible refine (spec_l6Rd_pick.calls kj38 g s0_0 t269 50 t280 t281 w0 _ ?side1 ?side2 A74.out).mono ?_); (case side1 => repeat (first | (with_reducible first | exact HI0.out | apply IsS82.alloc | apply IsS82.drewN | apply IsS82.drew | apply IsS82.set_1 | refine IsS82.far ?_ NB0_250.out _ | refine IsS82.far ?_ NB0_270.out _) | exact HI0.out)); (case side2 => repeat (first | (with_reducible first | exact HB.out | apply bA | apply bN | apply bD | refine bS ?_ (IsS82.ge HI0.out) | refine bS ?_ GE250.out | refine bS ?_ GE270.out) | exact HB.out)); rintro e w78 ⟨rfl, hi, hb, hk⟩; refine ⟨_, rfl, ?_⟩; replace HO_271000 := A0_ (Kd.Q_mono (Kd.Q_keep (IsS82.apartQ (show IsS82 w0 _ g s0_0 t269 from by repeat (first | (with_reducible first | exact HI0.out | apply IsS82.alloc | apply IsS82.drewN | apply IsS82.drew | apply IsS82.set_1 | refine IsS82.far ?_ NB0_250.out _ | refine IsS82.far ?_ NB0_270.out _) | exact HI0.out)) (zQ_ HO_271000) (by decide)) hk (fun _ h => h.2)) (fun _ h => h.1)); replace HO_271001 := A0_ (rM (Kd.R_keep (IsS82.apart (show IsS82 w0 _ g s0_0 t269 from by repeat (first | (with_reducible first | exact HI0.out | apply IsS82.alloc | apply IsS82.drewN | apply IsS82.drew | apply IsS82.set_1 | refine IsS82.far ?_ NB0_250.out _ | refine IsS82.far ?_ NB0_270.out _) | exact HI0.out)) (zR_ HO_271001) (by decide)) hk (fun _ h => h.2)) (fun _ h => h.1)); replace BK250 := A0_ (KeepBut.blk hk (g' := gb250) (o := .cells #[.slice none 0 0, .slice none 0 0] 25 (0, 0)) (zK_ BK250) NB250_0.out (by simp)); replace BK270 := A0_ (KeepBut.blk hk (g' := gb270) (o := .cells #[u271000, u271001] 25 (0, 0)) (zK_ BK270) NB270_0.out (by simp)); replace HK := A0_ (KeepBut.trans (by repeat (first | (with_reducible first | exact HK.out | apply KeepBut.set_ | apply keep_drewN | apply keep_drew | apply keep_alloc | refine keep_far ?_ GW250.out _ | refine keep_far ?_ GW270.out _) | exact HK.out)) hk (.inl rfl)); replace HB := A0_ (hb); replace HI0 := A0_ (hi); (try clear hb); have hnb79 := NB270_250.out; have hnc79 := NB250_270.out; have hnb80 := NB270_0.out; have hnc80 := NB0_270.out; have hcz81_0 := zc0 BK270; have hcz81_1 := zc1 BK270; have hfz81_0 := kF BK270.out 0; have hfz81_1 := kF BK270.out 1; have p77 : 0 ≤ (0 : Int) := (by omega); have q77 : (0 : Int) < ((x271001_2.length : Int) : Int) := zd; have qi77 : (0 < x271001_2.length) = True := eq_true (by omega); obtain ⟨go77, co77, eo77, gb77, gl77, cl77, HG77⟩ := Kd.R_form HO_271001.out (by omega); (first | cases eo77 | (injection eo77 with ea_ en_ ec_; (first | subst ea_ | (injection ea_ with ea_; subst ea_)); subst ec_; clear en_)); have GB77 := A0_ gb77; have GG77 := A0_ HG77; clear gb77 gl77 HG77; obtain ⟨hx77_0, hf77_0⟩ := Kd.R_celln 0 HO_271001.out (0 : Int) p77 q77; (try rw [show ((0 : Int)).toNat = 0 from rfl] at hx77_0); (try simp only [Nat.reduceMul, Nat.zero_mul, Nat.zero_add, Nat.add_zero, Nat.reduceAdd] at hx77_0); (try rw [show ((0 : Int)).toNat = 0 from rfl] at hf77_0); (try simp only [Nat.reduceMul, Nat.zero_mul, Nat.zero_add, Nat.add_zero, Nat.reduceAdd] at hf77_0); replace p77 := eq_true p77; replace q77 := eq_true q77; obtain ⟨hy82_, hz82_⟩ := Kd.R_celln 0 HO_271001.out (0 : Int) (by omega) (zd); (try simp only [Int.reduceToNat, Int.toNat_zero, Int.toNat_ofNat, Nat.reduceMul, Nat.zero_mul, Nat.zero_add, Nat.add_zero] at hy82_ hz82_); (try rw [show ((0 : Int)).toNat = 0 from rfl] at hy82_); (try rw [show ((0 : Int)).toNat = 0 from rfl] at hz82_); have HP82 := Kd.R_putg HO_271001.out (0 : Int) 0) | ((with_reducible refine gS (t := 3) (p := 102) rfl ?_); refine store_event (t := 3) (p := 102) (v := ?vo_w83) (w1 := (w78.setCell ⟨go77, (0 : Int).toNat, none⟩ (.int .i64 0))) ?hg ?ho ?hn ?hr ?_; (case ho => rfl); (case hg => rfl); (case hn => rfl); (case hr => first | (go_simp; done) | (go_simp; rfl)); intro w83 hw; have hg : w78.grownBy w83 (some go77) := (by rw [hw]; exact HP82.2); have hp_ : Kd.R (Kd.int .i64) 3 w83 w.heap.size (fun k_ => some k_ ≠ (u271000 : Value).ownBlock) (.slice (some ⟨go77, 0, none⟩) x271001_2.length co77) y282 := (by rw [hw, Ny282.out]; exact HP82.1); clear HP82; replace HO_271000 := A0_ (Kd.Q_after (v := (.slice (some ⟨go77, 0, none⟩) x271001_2.length co77)) (v1 := (.slice (some ⟨go77, 0, none⟩) x271001_2.length co77)) (ok := (fun _ => True)) (zmQ HO_271000 (fun _ hk => ⟨trivial, hk⟩)) hg (.inl rfl)); replace BK250 := A0_ (blk_grown (g := gb250) (o := .cells #[.slice none 0 0, .slice none 0 0] 25 (0, 0)) (zK_ BK250) hg (Kd.R_ne HO_271001.out BK250.out (by decide))); replace BK270 := A0_ (blk_grown (g := gb270) (o := .cells #[u271000, .slice (some ⟨go77, 0, none⟩) x271001_2.length co77] 25 (0, 0)) (zK_ BK270) hg (Kd.R_ne HO_271001.out BK270.out (by decide))); replace HI0 := A0_ (IsS82.grown (by repeat (first | (with_reducible first | exact HI0.out | apply IsS82.alloc | apply IsS82.drewN | apply IsS82.drew | apply IsS82.set_1 | refine IsS82.far ?_ NB0_250.out _ | refine IsS82.far ?_ NB0_270.out _) | exact HI0.out)) hg (IsS82.own_ne HI0.out HO_271001.out (by decide))); replace HB := A0_ ((by rw [hw]; exact bS (HB.out) (Nat.le_trans HL.out GB77.out) : Below w0.heap.size w0 w83)); replace HK := A0_ (KeepBut.trans (by repeat (first | (with_reducible first | exact HK.out | apply KeepBut.set_ | apply keep_drewN | apply keep_drew | apply keep_alloc | refine keep_far ?_ GW250.out _ | refine keep_far ?_ GW270.out _) | exact HK.out)) (KeepBut.of_grown hg g) (Kd.R_base2 HO_271001.out)); replace HO_271001 := A0_ (hp_); clear hg hw hp_; have hcz84_0 := zc0 BK270; have hcz84_1 := zc1 BK270; have hfz84_0 := kF BK270.out 0; have hfz84_1 := kF BK270.out 1; obtain ⟨Ao85, co85, eo85, _⟩ := Kd.Q_slice HO_271000.out; subst eo85; have hnb86 := NB250_0.out; have hnc86 := NB0_250.out; have hcz87_0 := zc0 BK250; have hcz87_1 := zc1 BK250; have hfz87_0 := kF BK250.out 0; have hfz87_1 := kF BK250.out 1))
           refine bodyPost_ret (results_cell_row rfl _ _ gb250 25 #[.slice Ao85 x271000_2.length co85, .slice (some ⟨go77, 0, none⟩) x271001_2.length co77] (0, 0) _ rfl (by (with_reducible repeat (first | refine kN ?_ _ | refine kD ?_ | refine kA ?_ _)); refine blk_put (cs := #[.slice Ao85 x271000_2.length co85, .slice none 0 0]) ?_ 1 _ rfl; (with_reducible repeat (first | refine kN ?_ _ | refine kD ?_ | refine kA ?_ _)); refine blk_put (cs := #[.slice none 0 0, .slice none 0 0]) ?_ 0 _ rfl; (with_reducible repeat (first | refine kN ?_ _ | refine kD ?_ | refine kA ?_ _)); exact BK250.out) Try.underlying25 rfl (by kernel_rfl)) rfl ?_
           exact ⟨_, _, by first | rfl | (simp [errW_none, errW_some] <;> rfl) | (simp only [← hji5]; first | rfl | (simp [errW_none, errW_some] <;> rfl)) | (simp [*, errW_none, errW_some] <;> rfl), by (with_reducible repeat (first | apply Kd.Q_alloc | apply Kd.Q_drewN | apply Kd.Q_drew)); exact Kd.Q_mono (Kd.Q_far (p := ⟨gb250, 1, none⟩) (Kd.Q_far (p := ⟨gb250, 0, none⟩) (Kd.Q_types HO_271000.out BK250.out (by decide)) (fun _ hk => hk.2) (.slice Ao85 x271000_2.length co85)) (fun _ hk => hk.2) (.slice (some ⟨go77, 0, none⟩) x271001_2.length co77)) (fun _ hk => hk.1.2), zF HO_271001 BK250 (.slice Ao85 x271000_2.length co85) (.slice (some ⟨go77, 0, none⟩) x271001_2.length co77) 0 1, by repeat (first | (with_reducible first | exact HI0.out | apply IsS82.alloc | apply IsS82.drewN | apply IsS82.drew | apply IsS82.set_1 | refine IsS82.far ?_ NB0_250.out _ | refine IsS82.far ?_ NB0_270.out _) | exact HI0.out), by repeat (first | (with_reducible first | exact HB.out | apply bA | apply bN | apply bD | refine bS ?_ (IsS82.ge HI0.out) | refine bS ?_ GE250.out | refine bS ?_ GE270.out) | exact HB.out), by repeat (first | (with_reducible first | exact HK.out | apply KeepBut.set_ | apply keep_drewN | apply keep_drew | apply keep_alloc | refine keep_far ?_ GW250.out _ | refine keep_far ?_ GW270.out _) | exact HK.out)⟩
          rw [if_neg c76] at H
          exact absurd H (by simp)
         rw [if_neg c75] at H
         have c75b0 : (t280 == 0) = false := beq_eq_false_iff_ne.mpr c75
         have c75b1 : (t280 != 0) = true := bne_iff_ne.mpr c75
         by_cases c88 : t280 = 1
         ·rw [if_pos c88] at H
          have c88b0 : (t280 == 1) = true := beq_iff_eq.mpr c88
          have c88b1 : (t280 != 1) = false := bne_eq_false_iff_eq.mpr c88
          clear c88
          by_cases c89 : 1 ≤ (x271000_2.length : Int)
          ·rw [if_pos c89] at H
           have c89b0 := eq_true c89; have c89b1 := dT c89; clear c89
           obtain ⟨y283, hy283⟩ : ∃ y_ : List Int, y_ = (x271000_2.drop (1 : Int).toNat) := ⟨_, rfl⟩
           replace H : (some (y283, x271001_2, t281)) = some (r1, r2, r3) := zH hy283 H
           have Ny283 := A0_ hy283; clear hy283; simp only [Option.some.injEq, Prod.mk.injEq] at H; obtain ⟨rfl, rfl, rfl⟩ := H
           go_wp2_with (first | ((with_reducible refine gC (f := 74) rfl ?_); refine zJ (some 97) Try.func74 #[.pointer (some ⟨g, 0, none⟩), .int .i64 50] ?_; (with_reducible refine (spec_l6Rd_pick.calls kj38 g s0_0 t269 50 t280 t281 w0 _ ?side1 ?side2 A74.out).mono ?_); (case side1 => repeat (first | (with_reducible first | exact HI0.out | apply IsS82.alloc | apply IsS82.drewN | apply IsS82.drew | apply IsS82.set_1 | refine IsS82.far ?_ NB0_250.out _ | refine IsS82.far ?_ NB0_270.out _) | exact HI0.out)); (case side2 => repeat (first | (with_reducible first | exact HB.out | apply bA | apply bN | apply bD | refine bS ?_ (IsS82.ge HI0.out) | refine bS ?_ GE250.out | refine bS ?_ GE270.out) | exact HB.out)); rintro e w90 ⟨rfl, hi, hb, hk⟩; refine ⟨_, rfl, ?_⟩; replace HO_271000 := A0_ (Kd.Q_mono (Kd.Q_keep (IsS82.apartQ (show IsS82 w0 _ g s0_0 t269 from by repeat (first | (with_reducible first | exact HI0.out | apply IsS82.alloc | apply IsS82.drewN | apply IsS82.drew | apply IsS82.set_1 | refine IsS82.far ?_ NB0_250.out _ | refine IsS82.far ?_ NB0_270.out _) | exact HI0.out)) (zQ_ HO_271000) (by decide)) hk (fun _ h => h.2)) (fun _ h => h.1)); replace HO_271001 := A0_ (rM (Kd.R_keep (IsS82.apart (show IsS82 w0 _ g s0_0 t269 from by repeat (first | (with_reducible first | exact HI0.out | apply IsS82.alloc | apply IsS82.drewN | apply IsS82.drew | apply IsS82.set_1 | refine IsS82.far ?_ NB0_250.out _ | refine IsS82.far ?_ NB0_270.out _) | exact HI0.out)) (zR_ HO_271001) (by decide)) hk (fun _ h => h.2)) (fun _ h => h.1)); replace BK250 := A0_ (KeepBut.blk hk (g' := gb250) (o := .cells #[.slice none 0 0, .slice none 0 0] 25 (0, 0)) (zK_ BK250) NB250_0.out (by simp)); replace BK270 := A0_ (KeepBut.blk hk (g' := gb270) (o := .cells #[u271000, u271001] 25 (0, 0)) (zK_ BK270) NB270_0.out (by simp)); replace HK := A0_ (KeepBut.trans (by repeat (first | (with_reducible first | exact HK.out | apply KeepBut.set_ | apply keep_drewN | apply keep_drew | apply keep_alloc | refine keep_far ?_ GW250.out _ | refine keep_far ?_ GW270.out _) | exact HK.out)) hk (.inl rfl)); replace HB := A0_ (hb); replace HI0 := A0_ (hi); (try clear hb); have hnb91 := NB270_250.out; have hnc91 := NB250_270.out; have hnb92 := NB270_0.out; have hnc92 := NB0_270.out; have hcz93_0 := zc0 BK270; have hcz93_1 := zc1 BK270; have hfz93_0 := kF BK270.out 0; have hfz93_1 := kF BK270.out 1; obtain ⟨Ao94, co94, eo94, _⟩ := Kd.Q_slice HO_271000.out; subst eo94; have q95 : (1 : Int) ≤ ((x271000_2.length : Int) : Int) := zd; obtain ⟨i095, hi095, _, hsz95, _⟩ := info_parts info3; have hcut95 := cut_from (P := Try.prog) 23 3 .i64 Try.underlying23 hi095 1 hsz95 Ao94 x271000_2.length co94 1 (by omega) q95; have hr95 := Kd.Q_drop (k := (1 : Int).toNat) HO_271000.out (by omega); obtain ⟨A95, hA95⟩ : ∃ A1, A1 = (if co94 = (1 : Int).toNat then Ao94 else (Ao94 : Option Addr).map (·.add ((1 : Int).toNat * 1))) := ⟨_, rfl⟩; obtain ⟨c95, hc95⟩ : ∃ c1, c1 = co94 - (1 : Int).toNat := ⟨_, rfl⟩; have hy95 : y283.length = x271000_2.length - (1 : Int).toNat := (by rw [Ny283.out, List.length_drop]); rw [← Ny283.out] at hr95; rw [← hy95, ← hA95, ← hc95] at hcut95; replace hr95 : Kd.Q (Kd.int .i64) 3 w90 w.heap.size (fun k_ => some k_ ≠ (u271001 : Value).ownBlock) (.slice A95 y283.length c95) y283 := (by rw [hA95, hc95, hy95]; exact hr95); have HE95 : Aside0 ((Value.slice A95 y283.length c95).ownBlock = (.slice Ao94 x271000_2.length co94 : Value).ownBlock) := ⟨by rw [hA95]; split <;> (cases (Ao94 : Option Addr) <;> rfl)⟩; clear hy95 hi095 hsz95 HO_271000 hA95 hc95; have HO285 := A0_ hr95; clear hr95; replace q95 := eq_true q95; have n_ := A0_ (rM (ok' := fun k_ => some k_ ≠ (.slice A95 y283.length c95 : Value).ownBlock) HO_271001.out (fun k_ hk => (by rw [HE95.out]; exact hk))); clear HO_271001; have HO_271001 := n_; clear n_; have hnb96 := NB250_0.out; have hnc96 := NB0_250.out; have hcz97_0 := zc0 BK250; have hcz97_1 := zc1 BK250; have hfz97_0 := kF BK250.out 0; have hfz97_1 := kF BK250.out 1; obtain ⟨Ao98, co98, eo98⟩ := rS HO_271001.out; subst eo98))
           refine bodyPost_ret (results_cell_row rfl _ _ gb250 25 #[.slice A95 y283.length c95, .slice Ao98 x271001_2.length co98] (0, 0) _ rfl (by (with_reducible repeat (first | refine kN ?_ _ | refine kD ?_ | refine kA ?_ _)); refine blk_put (cs := #[.slice A95 y283.length c95, .slice none 0 0]) ?_ 1 _ rfl; (with_reducible repeat (first | refine kN ?_ _ | refine kD ?_ | refine kA ?_ _)); refine blk_put (cs := #[.slice none 0 0, .slice none 0 0]) ?_ 0 _ rfl; (with_reducible repeat (first | refine kN ?_ _ | refine kD ?_ | refine kA ?_ _)); refine blk_far ?_ NB250_270.out _; (with_reducible repeat (first | refine kN ?_ _ | refine kD ?_ | refine kA ?_ _)); exact BK250.out) Try.underlying25 rfl (by kernel_rfl)) rfl ?_
           exact ⟨_, _, by first | rfl | (simp [errW_none, errW_some] <;> rfl) | (simp only [← hji5]; first | rfl | (simp [errW_none, errW_some] <;> rfl)) | (simp [*, errW_none, errW_some] <;> rfl), by (with_reducible repeat (first | apply Kd.Q_alloc | apply Kd.Q_drewN | apply Kd.Q_drew)); exact Kd.Q_mono (Kd.Q_far (p := ⟨gb250, 1, none⟩) (Kd.Q_far (p := ⟨gb250, 0, none⟩) (Kd.Q_far (p := ⟨gb270, 0, none⟩) (Kd.Q_types (Kd.Q_types HO285.out BK270.out (by decide)) BK250.out (by decide)) (fun _ hk => hk.1.2) (.slice A95 y283.length c95)) (fun _ hk => hk.2) (.slice A95 y283.length c95)) (fun _ hk => hk.2) (.slice Ao98 x271001_2.length co98)) (fun _ hk => hk.1.1), by (with_reducible repeat (first | apply rA | apply rN | apply rD)); exact rM (rF (p := ⟨gb250, 1, none⟩) (rF (p := ⟨gb250, 0, none⟩) (rF (p := ⟨gb270, 0, none⟩) (rY (rY HO_271001.out BK270.out (by decide)) BK250.out (by decide)) (fun _ hk => hk.1.2) (.slice A95 y283.length c95)) (fun _ hk => hk.2) (.slice A95 y283.length c95)) (fun _ hk => hk.2) (.slice Ao98 x271001_2.length co98)) (fun _ hk => hk.1.1), by repeat (first | (with_reducible first | exact HI0.out | apply IsS82.alloc | apply IsS82.drewN | apply IsS82.drew | apply IsS82.set_1 | refine IsS82.far ?_ NB0_250.out _ | refine IsS82.far ?_ NB0_270.out _) | exact HI0.out), by repeat (first | (with_reducible first | exact HB.out | apply bA | apply bN | apply bD | refine bS ?_ (IsS82.ge HI0.out) | refine bS ?_ GE250.out | refine bS ?_ GE270.out) | exact HB.out), by repeat (first | (with_reducible first | exact HK.out | apply KeepBut.set_ | apply keep_drewN | apply keep_drew | apply keep_alloc | refine keep_far ?_ GW250.out _ | refine keep_far ?_ GW270.out _) | exact HK.out)⟩
          rw [if_neg c89] at H
          exact absurd H (by simp)
         rw [if_neg c88] at H
         have c88b0 : (t280 == 1) = false := beq_eq_false_iff_ne.mpr c88
         have c88b1 : (t280 != 1) = true := bne_iff_ne.mpr c88
         by_cases c99 : t280 = 2
         ·rw [if_pos c99] at H
          have c99b0 : (t280 == 2) = true := beq_iff_eq.mpr c99
          have c99b1 : (t280 != 2) = false := bne_eq_false_iff_eq.mpr c99
          clear c99
          by_cases c100 : 0 < (x271000_2.length : Int)
          ·rw [if_pos c100] at H
           have c100b0 := dT c100
           have c100b1 : decide (0 < x271000_2.length) = true := dT (by omega)
           clear c100
           obtain ⟨y286, hy286⟩ : ∃ y_ : List Int, y_ = (x271000_2.set (0 : Int).toNat ji5) := ⟨_, rfl⟩
           replace H : (some (y286, x271001_2, t281)) = some (r1, r2, r3) := zH hy286 H
           have Ny286 := A0_ hy286; clear hy286; simp only [Option.some.injEq, Prod.mk.injEq] at H; obtain ⟨rfl, rfl, rfl⟩ := H
           go_wp2_with (first | ((with_reducible refine gC (f := 74) rfl ?_); refine zJ (some 97) Try.func74 #[.pointer (some ⟨g, 0, none⟩), .int .i64 50] ?_; (with_reducible refine (spec_l6Rd_pick.calls kj38 g s0_0 t269 50 t280 t281 w0 _ ?side1 ?side2 A74.out).mono ?_); (case side1 => repeat (first | (with_reducible first | exact HI0.out | apply IsS82.alloc | apply IsS82.drewN | apply IsS82.drew | apply IsS82.set_1 | refine IsS82.far ?_ NB0_250.out _ | refine IsS82.far ?_ NB0_270.out _) | exact HI0.out)); (case side2 => repeat (first | (with_reducible first | exact HB.out | apply bA | apply bN | apply bD | refine bS ?_ (IsS82.ge HI0.out) | refine bS ?_ GE250.out | refine bS ?_ GE270.out) | exact HB.out)); rintro e w102 ⟨rfl, hi, hb, hk⟩; refine ⟨_, rfl, ?_⟩; replace HO_271000 := A0_ (Kd.Q_mono (Kd.Q_keep (IsS82.apartQ (show IsS82 w0 _ g s0_0 t269 from by repeat (first | (with_reducible first | exact HI0.out | apply IsS82.alloc | apply IsS82.drewN | apply IsS82.drew | apply IsS82.set_1 | refine IsS82.far ?_ NB0_250.out _ | refine IsS82.far ?_ NB0_270.out _) | exact HI0.out)) (zQ_ HO_271000) (by decide)) hk (fun _ h => h.2)) (fun _ h => h.1)); replace HO_271001 := A0_ (rM (Kd.R_keep (IsS82.apart (show IsS82 w0 _ g s0_0 t269 from by repeat (first | (with_reducible first | exact HI0.out | apply IsS82.alloc | apply IsS82.drewN | apply IsS82.drew | apply IsS82.set_1 | refine IsS82.far ?_ NB0_250.out _ | refine IsS82.far ?_ NB0_270.out _) | exact HI0.out)) (zR_ HO_271001) (by decide)) hk (fun _ h => h.2)) (fun _ h => h.1)); replace BK250 := A0_ (KeepBut.blk hk (g' := gb250) (o := .cells #[.slice none 0 0, .slice none 0 0] 25 (0, 0)) (zK_ BK250) NB250_0.out (by simp)); replace BK270 := A0_ (KeepBut.blk hk (g' := gb270) (o := .cells #[u271000, u271001] 25 (0, 0)) (zK_ BK270) NB270_0.out (by simp)); replace HK := A0_ (KeepBut.trans (by repeat (first | (with_reducible first | exact HK.out | apply KeepBut.set_ | apply keep_drewN | apply keep_drew | apply keep_alloc | refine keep_far ?_ GW250.out _ | refine keep_far ?_ GW270.out _) | exact HK.out)) hk (.inl rfl)); replace HB := A0_ (hb); replace HI0 := A0_ (hi); (try clear hb); have hnb103 := NB270_250.out; have hnc103 := NB250_270.out; have hnb104 := NB270_0.out; have hnc104 := NB0_270.out; have hcz105_0 := zc0 BK270; have hcz105_1 := zc1 BK270; have hfz105_0 := kF BK270.out 0; have hfz105_1 := kF BK270.out 1; have p101 : 0 ≤ (0 : Int) := (by omega); have q101 : (0 : Int) < ((x271000_2.length : Int) : Int) := zd; have qi101 : (0 < x271000_2.length) = True := eq_true (by omega); obtain ⟨go101, oo101, co101, eo101, gb101, gl101, cl101, HG101⟩ := Kd.Q_form HO_271000.out (by omega); (first | cases eo101 | (injection eo101 with ea_ en_ ec_; (first | subst ea_ | (injection ea_ with ea_; subst ea_)); subst ec_; clear en_)); have GB101 := A0_ gb101; have GG101 := A0_ HG101; clear gb101 gl101 HG101; obtain ⟨hx101_0, hf101_0⟩ := Kd.Q_cell 0 HO_271000.out (0 : Int) p101 q101; (try rw [show ((0 : Int)).toNat = 0 from rfl] at hx101_0); (try simp only [Nat.reduceMul, Nat.zero_mul, Nat.zero_add, Nat.add_zero, Nat.reduceAdd] at hx101_0); (try rw [show ((0 : Int)).toNat = 0 from rfl] at hf101_0); (try simp only [Nat.reduceMul, Nat.zero_mul, Nat.zero_add, Nat.add_zero, Nat.reduceAdd] at hf101_0); replace p101 := eq_true p101; replace q101 := eq_true q101; obtain ⟨hy106_, hz106_⟩ := Kd.Q_cell 0 HO_271000.out (0 : Int) (by omega) (zd); (try simp only [Int.reduceToNat, Int.toNat_zero, Int.toNat_ofNat, Nat.reduceMul, Nat.zero_mul, Nat.zero_add, Nat.add_zero] at hy106_ hz106_); (try rw [show ((0 : Int)).toNat = 0 from rfl] at hy106_); (try rw [show ((0 : Int)).toNat = 0 from rfl] at hz106_); have HP106 := Kd.Q_putg HO_271000.out (0 : Int) (by omega) (by have h_ : (0 : Int) < ((x271000_2.length : Int) : Int) := zd; first | exact h_ | (have e_ := (Kd.Q_reads' HO_271000.out).1; omega) | simpa using h_) ji5) | ((with_reducible refine gS (t := 3) (p := 114) rfl ?_); refine store_event (t := 3) (p := 114) (v := ?vo_w107) (w1 := (w102.setCell ⟨go101, oo101, none⟩ (.int .i64 ji5))) ?hg ?ho ?hn ?hr ?_; (case ho => rfl); (case hg => rfl); (case hn => rfl); (case hr => first | (go_simp; done) | (go_simp; rfl)); intro w107 hw; have hg : w102.grownBy w107 (some go101) := (by rw [hw]; exact HP106.2); have hp_ : Kd.Q (Kd.int .i64) 3 w107 w.heap.size (fun k_ => some k_ ≠ (u271001 : Value).ownBlock) (.slice (some ⟨go101, oo101, none⟩) x271000_2.length co101) y286 := (by rw [hw, Ny286.out]; exact HP106.1); clear HP106; replace HO_271001 := A0_ (Kd.R_after (v := (.slice (some ⟨go101, oo101, none⟩) x271000_2.length co101)) (v1 := (.slice (some ⟨go101, oo101, none⟩) x271000_2.length co101)) (ok := (fun _ => True)) (zmR HO_271001 (fun _ hk => ⟨trivial, hk⟩)) hg (.inl rfl)); replace BK250 := A0_ (blk_grown (g := gb250) (o := .cells #[.slice none 0 0, .slice none 0 0] 25 (0, 0)) (zK_ BK250) hg (Kd.Q_ne HO_271000.out BK250.out (by decide))); replace BK270 := A0_ (blk_grown (g := gb270) (o := .cells #[.slice (some ⟨go101, oo101, none⟩) x271000_2.length co101, u271001] 25 (0, 0)) (zK_ BK270) hg (Kd.Q_ne HO_271000.out BK270.out (by decide))); replace HI0 := A0_ (IsS82.grown (by repeat (first | (with_reducible first | exact HI0.out | apply IsS82.alloc | apply IsS82.drewN | apply IsS82.drew | apply IsS82.set_1 | refine IsS82.far ?_ NB0_250.out _ | refine IsS82.far ?_ NB0_270.out _) | exact HI0.out)) hg (IsS82.own_neQ HI0.out HO_271000.out (by decide))); replace HB := A0_ ((by rw [hw]; exact bS (HB.out) (Nat.le_trans HL.out GB101.out) : Below w0.heap.size w0 w107)); replace HK := A0_ (KeepBut.trans (by repeat (first | (with_reducible first | exact HK.out | apply KeepBut.set_ | apply keep_drewN | apply keep_drew | apply keep_alloc | refine keep_far ?_ GW250.out _ | refine keep_far ?_ GW270.out _) | exact HK.out)) (KeepBut.of_grown hg g) (Kd.Q_base2 HO_271000.out)); replace HO_271000 := A0_ (hp_); clear hg hw hp_; have hcz108_0 := zc0 BK270; have hcz108_1 := zc1 BK270; have hfz108_0 := kF BK270.out 0; have hfz108_1 := kF BK270.out 1; have hnb109 := NB250_0.out; have hnc109 := NB0_250.out; have hcz110_0 := zc0 BK250; have hcz110_1 := zc1 BK250; have hfz110_0 := kF BK250.out 0; have hfz110_1 := kF BK250.out 1; obtain ⟨Ao111, co111, eo111⟩ := rS HO_271001.out; subst eo111))
           refine bodyPost_ret (results_cell_row rfl _ _ gb250 25 #[.slice (some ⟨go101, oo101, none⟩) x271000_2.length co101, .slice Ao111 x271001_2.length co111] (0, 0) _ rfl (by (with_reducible repeat (first | refine kN ?_ _ | refine kD ?_ | refine kA ?_ _)); refine blk_put (cs := #[.slice (some ⟨go101, oo101, none⟩) x271000_2.length co101, .slice none 0 0]) ?_ 1 _ rfl; (with_reducible repeat (first | refine kN ?_ _ | refine kD ?_ | refine kA ?_ _)); refine blk_put (cs := #[.slice none 0 0, .slice none 0 0]) ?_ 0 _ rfl; (with_reducible repeat (first | refine kN ?_ _ | refine kD ?_ | refine kA ?_ _)); exact BK250.out) Try.underlying25 rfl (by kernel_rfl)) rfl ?_
           exact ⟨_, _, by first | rfl | (simp [errW_none, errW_some] <;> rfl) | (simp only [← hji5]; first | rfl | (simp [errW_none, errW_some] <;> rfl)) | (simp [*, errW_none, errW_some] <;> rfl), by (with_reducible repeat (first | apply Kd.Q_alloc | apply Kd.Q_drewN | apply Kd.Q_drew)); exact Kd.Q_mono (Kd.Q_far (p := ⟨gb250, 1, none⟩) (Kd.Q_far (p := ⟨gb250, 0, none⟩) (Kd.Q_types HO_271000.out BK250.out (by decide)) (fun _ hk => hk.2) (.slice (some ⟨go101, oo101, none⟩) x271000_2.length co101)) (fun _ hk => hk.2) (.slice Ao111 x271001_2.length co111)) (fun _ hk => hk.1), by (with_reducible repeat (first | apply rA | apply rN | apply rD)); exact rM (rF (p := ⟨gb250, 1, none⟩) (rF (p := ⟨gb250, 0, none⟩) (rY HO_271001.out BK250.out (by decide)) (fun _ hk => hk.2) (.slice (some ⟨go101, oo101, none⟩) x271000_2.length co101)) (fun _ hk => hk.2) (.slice Ao111 x271001_2.length co111)) (fun _ hk => hk.1.2), by repeat (first | (with_reducible first | exact HI0.out | apply IsS82.alloc | apply IsS82.drewN | apply IsS82.drew | apply IsS82.set_1 | refine IsS82.far ?_ NB0_250.out _ | refine IsS82.far ?_ NB0_270.out _) | exact HI0.out), by repeat (first | (with_reducible first | exact HB.out | apply bA | apply bN | apply bD | refine bS ?_ (IsS82.ge HI0.out) | refine bS ?_ GE250.out | refine bS ?_ GE270.out) | exact HB.out), by repeat (first | (with_reducible first | exact HK.out | apply KeepBut.set_ | apply keep_drewN | apply keep_drew | apply keep_alloc | refine keep_far ?_ GW250.out _ | refine keep_far ?_ GW270.out _) | exact HK.out)⟩
          rw [if_neg c100] at H
          exact absurd H (by simp)
         rw [if_neg c99] at H
         have c99b0 : (t280 == 2) = false := beq_eq_false_iff_ne.mpr c99
         have c99b1 : (t280 != 2) = true := bne_iff_ne.mpr c99
         simp only [Option.some.injEq, Prod.mk.injEq] at H; obtain ⟨rfl, rfl, rfl⟩ := H
         go_wp2_with (first | ((with_reducible refine gC (f := 74) rfl ?_); refine zJ (some 97) Try.func74 #[.pointer (some ⟨g, 0, none⟩), .int .i64 50] ?_; (with_reducible refine (spec_l6Rd_pick.calls kj38 g s0_0 t269 50 t280 t281 w0 _ ?side1 ?side2 A74.out).mono ?_); (case side1 => repeat (first | (with_reducible first | exact HI0.out | apply IsS82.alloc | apply IsS82.drewN | apply IsS82.drew | apply IsS82.set_1 | refine IsS82.far ?_ NB0_250.out _ | refine IsS82.far ?_ NB0_270.out _) | exact HI0.out)); (case side2 => repeat (first | (with_reducible first | exact HB.out | apply bA | apply bN | apply bD | refine bS ?_ (IsS82.ge HI0.out) | refine bS ?_ GE250.out | refine bS ?_ GE270.out) | exact HB.out)); rintro e w112 ⟨rfl, hi, hb, hk⟩; refine ⟨_, rfl, ?_⟩; replace HO_271000 := A0_ (Kd.Q_mono (Kd.Q_keep (IsS82.apartQ (show IsS82 w0 _ g s0_0 t269 from by repeat (first | (with_reducible first | exact HI0.out | apply IsS82.alloc | apply IsS82.drewN | apply IsS82.drew | apply IsS82.set_1 | refine IsS82.far ?_ NB0_250.out _ | refine IsS82.far ?_ NB0_270.out _) | exact HI0.out)) (zQ_ HO_271000) (by decide)) hk (fun _ h => h.2)) (fun _ h => h.1)); replace HO_271001 := A0_ (rM (Kd.R_keep (IsS82.apart (show IsS82 w0 _ g s0_0 t269 from by repeat (first | (with_reducible first | exact HI0.out | apply IsS82.alloc | apply IsS82.drewN | apply IsS82.drew | apply IsS82.set_1 | refine IsS82.far ?_ NB0_250.out _ | refine IsS82.far ?_ NB0_270.out _) | exact HI0.out)) (zR_ HO_271001) (by decide)) hk (fun _ h => h.2)) (fun _ h => h.1)); replace BK250 := A0_ (KeepBut.blk hk (g' := gb250) (o := .cells #[.slice none 0 0, .slice none 0 0] 25 (0, 0)) (zK_ BK250) NB250_0.out (by simp)); replace BK270 := A0_ (KeepBut.blk hk (g' := gb270) (o := .cells #[u271000, u271001] 25 (0, 0)) (zK_ BK270) NB270_0.out (by simp)); replace HK := A0_ (KeepBut.trans (by repeat (first | (with_reducible first | exact HK.out | apply KeepBut.set_ | apply keep_drewN | apply keep_drew | apply keep_alloc | refine keep_far ?_ GW250.out _ | refine keep_far ?_ GW270.out _) | exact HK.out)) hk (.inl rfl)); replace HB := A0_ (hb); replace HI0 := A0_ (hi); (try clear hb); have hnb113 := NB270_250.out; have hnc113 := NB250_270.out; have hnb114 := NB270_0.out; have hnc114 := NB0_270.out; have hcz115_0 := zc0 BK270; have hcz115_1 := zc1 BK270; have hfz115_0 := kF BK270.out 0; have hfz115_1 := kF BK270.out 1; obtain ⟨Ao116, co116, eo116, _⟩ := Kd.Q_slice HO_271000.out; subst eo116; have hnb117 := NB250_0.out; have hnc117 := NB0_250.out; have hcz118_0 := zc0 BK250; have hcz118_1 := zc1 BK250; have hfz118_0 := kF BK250.out 0; have hfz118_1 := kF BK250.out 1; obtain ⟨Ao119, co119, eo119⟩ := rS HO_271001.out; subst eo119))
         refine bodyPost_ret (results_cell_row rfl _ _ gb250 25 #[.slice Ao116 x271000_2.length co116, .slice Ao119 x271001_2.length co119] (0, 0) _ rfl (by (with_reducible repeat (first | refine kN ?_ _ | refine kD ?_ | refine kA ?_ _)); refine blk_put (cs := #[.slice Ao116 x271000_2.length co116, .slice none 0 0]) ?_ 1 _ rfl; (with_reducible repeat (first | refine kN ?_ _ | refine kD ?_ | refine kA ?_ _)); refine blk_put (cs := #[.slice none 0 0, .slice none 0 0]) ?_ 0 _ rfl; (with_reducible repeat (first | refine kN ?_ _ | refine kD ?_ | refine kA ?_ _)); exact BK250.out) Try.underlying25 rfl (by kernel_rfl)) rfl ?_
         exact ⟨_, _, by first | rfl | (simp [errW_none, errW_some] <;> rfl) | (simp only [← hji5]; first | rfl | (simp [errW_none, errW_some] <;> rfl)) | (simp [*, errW_none, errW_some] <;> rfl), by (with_reducible repeat (first | apply Kd.Q_alloc | apply Kd.Q_drewN | apply Kd.Q_drew)); exact Kd.Q_mono (Kd.Q_far (p := ⟨gb250, 1, none⟩) (Kd.Q_far (p := ⟨gb250, 0, none⟩) (Kd.Q_types HO_271000.out BK250.out (by decide)) (fun _ hk => hk.2) (.slice Ao116 x271000_2.length co116)) (fun _ hk => hk.2) (.slice Ao119 x271001_2.length co119)) (fun _ hk => hk.1), zF HO_271001 BK250 (.slice Ao116 x271000_2.length co116) (.slice Ao119 x271001_2.length co119) 0 1, by repeat (first | (with_reducible first | exact HI0.out | apply IsS82.alloc | apply IsS82.drewN | apply IsS82.drew | apply IsS82.set_1 | refine IsS82.far ?_ NB0_250.out _ | refine IsS82.far ?_ NB0_270.out _) | exact HI0.out), by repeat (first | (with_reducible first | exact HB.out | apply bA | apply bN | apply bD | refine bS ?_ (IsS82.ge HI0.out) | refine bS ?_ GE250.out | refine bS ?_ GE270.out) | exact HB.out), by repeat (first | (with_reducible first | exact HK.out | apply KeepBut.set_ | apply keep_drewN | apply keep_drew | apply keep_alloc | refine keep_far ?_ GW250.out _ | refine keep_far ?_ GW270.out _) | exact HK.out)⟩
  rw [if_neg c7] at H
  exact absurd H (by simp)
 rw [if_neg c6] at H
 exact absurd H (by simp)

end Go.Proofs.Ytmegggomhjgehaa.PFnWinding
