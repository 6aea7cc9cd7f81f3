-- Made by a program of this session (wip/tools) out of the loaded program; not trusted: Lean checks it.
import Derived.Test.YtlckmmnpcljhoaaPFnVoltagex0
import Derived.Test.YtlckmmnpcljhoaaPFnVoltagex5
import Derived.Test.YtlckmmnpcljhoaaPFnVoltagex6
-- packed
namespace Go.Proofs.Ytlckmmnpcljhoaa.PFnVoltage
open Go.RowKit Go.Proofs.YtlckmmnpcljhoaaW.PrintWords Go.Proofs.YtlckmmnpcljhoaaW.PrintLast Go.Proofs.YtlckmmnpcljhoaaW.PrintMore
attribute [local go_sem] max2_int min2_int max_two min_two max_three min_three max_four min_four   -- for this text's walks alone
set_option linter.unusedVariables false
set_option linter.unusedSimpArgs false

/-! ### spec_l91Map: function 35 -/
mutual
def spec_l91Map.l0 : Nat → Int → List Int → List Int → Int → List Int → Int → Option (List Int × List Int × Int)
  | 0, _, _, _, _, _, _ => none
  | k + 1, x5, x6, x7, x8, x1000, x1001 => if (wrap64 (x8 + 1)) < x5 then (if 0 ≤ x8 then (if x8 < (x6.length : Int) then (if 0 ≤ (wrap64 (x8 + 1)) then (if (wrap64 (x8 + 1)) < (x6.length : Int) then (if 0 ≤ (rd x6 x8) then (if (rd x6 x8) < (x7.length : Int) then (if 0 ≤ (rd x6 (wrap64 (x8 + 1))) then (if (rd x6 (wrap64 (x8 + 1))) < (x7.length : Int) then (spec_l91Map.l0 k x5 x6 ((x7.set ((rd x6 x8) : Int).toNat (rd x6 (wrap64 (x8 + 1)))).set ((rd x6 (wrap64 (x8 + 1))) : Int).toNat (rd x6 x8)) (wrap64 (x8 + 2)) x1000 x1001) else (none)) else (none)) else (none)) else (none)) else (none)) else (none)) else (none)) else (none)) else ((spec_l91Perm.f k x1000 x1001 x5).bind fun bt273 => (spec_l91Map.l1 k x5 0 x1000 bt273.2 bt273.1 x7))
def spec_l91Map.l1 : Nat → Int → Int → List Int → Int → List Int → List Int → Option (List Int × List Int × Int)
  | 0, _, _, _, _, _, _ => none
  | k + 1, x5, x10, x1000, x1001, x278000, x278001 => if x10 < x5 then ((spec_MapValid.f k x278000 x278001).bind fun t278 => (spec_l91Map.j2 k x5 x10 (!t278) x1000 x1001 x278000 x278001)) else (spec_l91Map.j2 k x5 x10 false x1000 x1001 x278000 x278001)
def spec_l91Map.j2 : Nat → Int → Int → Bool → List Int → Int → List Int → List Int → Option (List Int × List Int × Int)
  | 0, _, _, _, _, _, _, _ => none
  | k + 1, x5, x10, x64, x1000, x1001, x278000, x278001 => if x64 = true then ((spec_l1Orbits.f k x278000 x278001).bind fun t279 => (spec_l91Map.l2 k x5 x10 t279 0 x1000 x1001 x278000 x278001)) else ((spec_l6Rd_pick.f k x1000 x1001 50).bind fun bt287 => (if bt287.1 = 0 then (if 0 < (x278001.length : Int) then (some (x278000, (x278001.set (0 : Int).toNat 0), bt287.2)) else (none)) else (if bt287.1 = 1 then (if 1 ≤ (x278000.length : Int) then (some ((x278000.drop (1 : Int).toNat), x278001, bt287.2)) else (none)) else (if bt287.1 = 2 then (if 0 < (x278000.length : Int) then (some ((x278000.set (0 : Int).toNat x5), x278001, bt287.2)) else (none)) else (some (x278000, x278001, bt287.2))))))
def spec_l91Map.l2 : Nat → Int → Int → List Int → Int → List Int → Int → List Int → List Int → Option (List Int × List Int × Int)
  | 0, _, _, _, _, _, _, _, _ => none
  | k + 1, x5, x10, x11, x12, x1000, x1001, x278000, x278001 => if 0 ≤ x12 then (if x12 < (x11.length : Int) then (if (rd x11 x12) = 0 then (spec_l91Map.l2 k x5 x10 x11 (wrap64 (x12 + 1)) x1000 x1001 x278000 x278001) else (if 0 < (x278000.length : Int) then (if x12 < (x278000.length : Int) then (spec_l91Map.l1 k x5 (wrap64 (x10 + 1)) x1000 x1001 ((x278000.set (0 : Int).toNat (rd x278000 x12)).set (x12 : Int).toNat (rd x278000 0)) x278001) else (none)) else (none))) else (none)) else (none)
end
def spec_l91Map.f (k : Nat) (s0_0 : List Int) (s0_1 : Int) (a1 : Int) : Option (List Int × List Int × Int) := (spec_l6Rd_pick.f k s0_0 s0_1 a1).bind fun bt258 => ((spec_l91Perm.f k s0_0 bt258.2 (wrap64 (2 * (wrap64 (1 + bt258.1))))).bind fun bt260 => (if 0 ≤ (wrap64 (2 * (wrap64 (1 + bt258.1)))) then (if (wrap64 (2 * (wrap64 (1 + bt258.1))) : Int).toNat ≤ 35184372088832 then (spec_l91Map.l0 k (wrap64 (2 * (wrap64 (1 + bt258.1)))) bt260.1 (List.replicate (wrap64 (2 * (wrap64 (1 + bt258.1))) : Int).toNat 0) 0 s0_0 bt260.2) else (none)) else (none)))
def spec_l91Map.T7 : Bool × List (List Nat × List Nat) := (true, [([], []), ([], []), ([], []), ([1, 2], [1, 2]), ([3], [3]), ([], []), ([], []), ([6], [6]), ([5, 7], [5, 7]), ([8], [8]), ([0, 4, 0, 1, 2, 3, 4, 5, 6, 7, 8, 9], [0, 4]), ([10, 9, 0, 1, 2, 3, 4, 5, 6, 7, 8, 9], [9, 10])])
def spec_l91Map.B7 : List Nat := [0, 0, 0, 6, 14, 0, 0, 64, 224, 480, 1023, 2047]
theorem spec_l91Map.tab7 : rtab .any (opsOf Try.f35 7) = spec_l91Map.T7 := by kernel_rfl
theorem spec_l91Map.bits7 : waitsOk spec_l91Map.T7.2 spec_l91Map.B7 = true := by kernel_rfl
def spec_l91Map.T8 : Bool × List (List Nat × List Nat) := (true, [([], []), ([], []), ([], []), ([2], [2]), ([1, 3], [1, 3]), ([4], [4]), ([], []), ([], []), ([6, 7], [6, 7]), ([8], [8]), ([0, 5, 0, 1, 2, 3, 4, 5, 6, 7, 8, 9], [0, 5]), ([10, 9, 0, 1, 2, 3, 4, 5, 6, 7, 8, 9], [9, 10])])
def spec_l91Map.B8 : List Nat := [0, 0, 0, 4, 14, 30, 0, 0, 192, 448, 1023, 2047]
theorem spec_l91Map.tab8 : rtab .any (opsOf Try.f35 8) = spec_l91Map.T8 := by kernel_rfl
theorem spec_l91Map.bits8 : waitsOk spec_l91Map.T8.2 spec_l91Map.B8 = true := by kernel_rfl
def spec_l91Map.T18 : Bool × List (List Nat × List Nat) := (true, [([], []), ([0], [0]), ([], []), ([2], [2]), ([], []), ([3, 4], [3, 4]), ([5], [5]), ([1, 0, 1, 2, 3, 4, 5, 6], [1]), ([7, 6, 0, 1, 2, 3, 4, 5, 6], [6, 7])])
def spec_l91Map.B18 : List Nat := [0, 1, 0, 4, 0, 28, 60, 127, 255]
theorem spec_l91Map.tab18 : rtab .any (opsOf Try.f35 18) = spec_l91Map.T18 := by kernel_rfl
theorem spec_l91Map.bits18 : waitsOk spec_l91Map.T18.2 spec_l91Map.B18 = true := by kernel_rfl
set_option maxHeartbeats 8000000 in
set_option maxRecDepth 100000 in
theorem spec_l91Map.calls (k : Nat) (g : Nat) (s0_0 : List Int) (s0_1 : Int) (a1 : Int) (r1 : List Int) (r2 : List Int) (r3 : Int) (w0 w : World) (hI : IsS61 w0 w g s0_0 s0_1) (hB : Below w0.heap.size w0 w) (h : spec_l91Map.f k s0_0 s0_1 a1 = some (r1, r2, r3)) :
    Calls Try.prog 35 #[.pointer (some ⟨g, 0, none⟩), .int .i64 a1] w fun e w' => ∃ v0_ v1_ : Value, e = .returned (.agg #[v0_, v1_]) ∧ Kd.Q (Kd.int .i64) 3 w' w.heap.size (fun k_ => some k_ ≠ (v1_ : Value).ownBlock) v0_ r1 ∧ Kd.R (Kd.int .i64) 3 w' w.heap.size (fun k_ => some k_ ≠ (v0_ : Value).ownBlock) v1_ r2 ∧ IsS61 w0 w' g s0_0 r3 ∧ Below w0.heap.size w0 w' ∧ KeepBut w w' g none := by
 have hu25 := Try.underlying25; have HI0 := A0_ hI
 have HK := A0_ (KeepBut.refl w g none)
 have HL := A0_ hB.size; clear hI; have HW0 := A0_ hB.size; have HB := A0_ hB; clear hB
 have H : ((spec_l6Rd_pick.f k s0_0 s0_1 a1).bind fun bt258 => ((spec_l91Perm.f k s0_0 bt258.2 (wrap64 (2 * (wrap64 (1 + bt258.1))))).bind fun bt260 => (if 0 ≤ (wrap64 (2 * (wrap64 (1 + bt258.1)))) then (if (wrap64 (2 * (wrap64 (1 + bt258.1))) : Int).toNat ≤ 35184372088832 then (spec_l91Map.l0 k (wrap64 (2 * (wrap64 (1 + bt258.1)))) bt260.1 (List.replicate (wrap64 (2 * (wrap64 (1 + bt258.1))) : Int).toNat 0) 0 s0_0 bt260.2) else (none)) else (none)))) = some (r1, r2, r3) := h
 clear h; obtain ⟨⟨t258, t259⟩, A3, H⟩ := zbind H; dsimp only at H; obtain ⟨⟨t260, t263⟩, A4, H⟩ := zbind H; dsimp only at H
 obtain ⟨ji5, hji5⟩ : ∃ j_ : Int, (wrap64 (2 * (wrap64 (1 + t258)))) = j_ := ⟨_, rfl⟩
 replace H : (if 0 ≤ (ji5) then (if (ji5 : Int).toNat ≤ 35184372088832 then (spec_l91Map.l0 k ji5 t260 (List.replicate (ji5 : Int).toNat 0) 0 s0_0 t263) else (none)) else (none)) = some (r1, r2, r3) := by first | (rw [hji5] at H; exact H) | (simp only [hji5] at H ⊢; exact H)
 (try rw [hji5] at A3)
 (try rw [hji5] at A4)
 have hji5w : (IntKind.i64.wrap (2 * (wrap64 (1 + t258)))) = ji5 := (i64_w _).trans hji5
 by_cases c6 : 0 ≤ (ji5)
 ·rw [if_pos c6] at H
  have c6b0 := eq_true c6
  have c6b1 : decide (0 ≤ (ji5)) = true := dT c6
  clear c6
  by_cases c7 : (ji5 : Int).toNat ≤ 35184372088832
  ·rw [if_pos c7] at H
   have c7b0 := eq_true c7
   have c7b1 : decide ((ji5 : Int).toNat ≤ 35184372088832) = true := dT c7
   clear c7
   obtain ⟨y264, hy264⟩ : ∃ y_ : List Int, y_ = (List.replicate (ji5 : Int).toNat 0) := ⟨_, rfl⟩
   replace H : (spec_l91Map.l0 k ji5 t260 y264 0 s0_0 t263) = some (r1, r2, r3) := by first | (rw [hy264]; with_reducible exact H) | (have H2_ := (Option.bind_some _ _).symm.trans H; rw [hy264]; with_reducible exact H2_) | (have H2_ := (Option.bind_some _ _).symm.trans H; with_reducible exact H2_) | with_reducible exact H | (rw [hy264]; exact H) | exact H
   have Ny264 := A0_ hy264; clear hy264; have H' := A0_ H; clear H
   go_enter Try.func35, Try.ntmps35
   go_wp2_with (first | ((with_reducible refine gD (N := 4) rfl ?_); refine box_event ?hg (N := 4) ?hd (cs := #[.slice none 0 0, .slice none 0 0]) (t := 25) ?hr ?_; (case hd => rfl); (case hg => rfl); (case hr => first | (go_simp; done) | (go_simp; rfl)); intro gb257 hg w8 hbox hb; replace HB := A0_ (bT (by repeat (first | (with_reducible first | exact HB.out | apply bA | apply bN | apply bD | refine bS ?_ (IsS61.ge HI0.out)) | exact HB.out)) hb); have BK257 := A0_ (hbox); have GW257 := A0_ ((by rw [hg]; exact (keep_size (w := w) (g := g) (row := none) (by repeat (first | (with_reducible first | exact HK.out | apply KeepBut.set_ | apply keep_drewN | apply keep_drew | apply keep_alloc) | exact HK.out))) : w.heap.size ≤ gb257)); have GE257 := A0_ ((Nat.le_trans HW0.out (by rw [hg]; exact (keep_size (w := w) (g := g) (row := none) (by repeat (first | (with_reducible first | exact HK.out | apply KeepBut.set_ | apply keep_drewN | apply keep_drew | apply keep_alloc) | exact HK.out))) : w.heap.size ≤ gb257) : w0.heap.size ≤ gb257)); replace HK := A0_ (KeepBut.trans (by repeat (first | (with_reducible first | exact HK.out | apply KeepBut.set_ | apply keep_drewN | apply keep_drew | apply keep_alloc) | exact HK.out)) (KeepBut.of_below hb g none) (.inl rfl)); have NB0_257 := A0_ ((by rw [hg]; exact Nat.ne_of_lt (IsS61.lt (show IsS61 w0 _ g s0_0 s0_1 from by repeat (first | (with_reducible first | exact HI0.out | apply IsS61.alloc | apply IsS61.drewN | apply IsS61.drew | apply IsS61.set_1) | exact HI0.out))) : g ≠ gb257)); have NB257_0 := A0_ ((by rw [hg]; exact Nat.ne_of_gt (IsS61.lt (show IsS61 w0 _ g s0_0 s0_1 from by repeat (first | (with_reducible first | exact HI0.out | apply IsS61.alloc | apply IsS61.drewN | apply IsS61.drew | apply IsS61.set_1) | exact HI0.out))) : gb257 ≠ g)); replace HI0 := A0_ (IsS61.below (by repeat (first | (with_reducible first | exact HI0.out | apply IsS61.alloc | apply IsS61.drewN | apply IsS61.drew | apply IsS61.set_1) | exact HI0.out)) hb); clear hb hbox hg) | ((with_reducible refine gC (f := 22) rfl ?_); refine goesL_ (some 16) rfl rfl Try.func22 (by kernel_rfl) rfl #[.pointer (some ⟨g, 0, none⟩), .int .i64 a1] rfl (by (try simp only [List.map_toArray, List.map_cons, List.map_nil]); first | done | rfl) ?_; (with_reducible refine (spec_l6Rd_pick.calls k g s0_0 s0_1 a1 t258 t259 w0 _ ?side1 ?side2 A3.out).mono ?_); (case side1 => repeat (first | (with_reducible first | exact HI0.out | apply IsS61.alloc | apply IsS61.drewN | apply IsS61.drew | apply IsS61.set_1 | refine IsS61.far ?_ NB0_257.out _) | exact HI0.out)); (case side2 => repeat (first | (with_reducible first | exact HB.out | apply bA | apply bN | apply bD | refine bS ?_ (IsS61.ge HI0.out) | refine bS ?_ GE257.out) | exact HB.out)); rintro e w9 ⟨rfl, hi, hb, hk⟩; refine ⟨_, rfl, ?_⟩; replace BK257 := A0_ (KeepBut.blk hk (g' := gb257) (o := .cells #[.slice none 0 0, .slice none 0 0] 25 (0, 0)) (zK_ BK257) NB257_0.out (by simp)); replace HK := A0_ (KeepBut.trans (by repeat (first | (with_reducible first | exact HK.out | apply KeepBut.set_ | apply keep_drewN | apply keep_drew | apply keep_alloc | refine keep_far ?_ GW257.out _) | exact HK.out)) hk (.inl rfl)); replace HB := A0_ (hb); replace HI0 := A0_ (hi); (try clear hb)) | ((with_reducible refine gC (f := 24) rfl ?_); refine goesL_ (some 21) rfl rfl Try.func24 (by kernel_rfl) rfl #[.pointer (some ⟨g, 0, none⟩), .int .i64 ji5] rfl (by (try simp only [List.map_toArray, List.map_cons, List.map_nil]); first | done | (simp only [hji5]; rfl) | rfl | (simp only [List.length_drop, List.length_take]; rfl)) ?_; (with_reducible refine (spec_l91Perm.calls k g s0_0 t259 ji5 t260 t263 w0 _ ?side1 ?side2 A4.out).mono ?_); (case side1 => repeat (first | (with_reducible first | exact HI0.out | apply IsS61.alloc | apply IsS61.drewN | apply IsS61.drew | apply IsS61.set_1 | refine IsS61.far ?_ NB0_257.out _) | exact HI0.out)); (case side2 => repeat (first | (with_reducible first | exact HB.out | apply bA | apply bN | apply bD | refine bS ?_ (IsS61.ge HI0.out) | refine bS ?_ GE257.out) | exact HB.out)); rintro e w10 ⟨v261, rfl, ho0, hi, hb, hk⟩; refine ⟨_, rfl, ?_⟩; replace BK257 := A0_ (KeepBut.blk hk (g' := gb257) (o := .cells #[.slice none 0 0, .slice none 0 0] 25 (0, 0)) (zK_ BK257) NB257_0.out (by simp)); have HO262 := A0_ (rL ho0 (keep_size (w := w) (g := g) (row := none) (by repeat (first | (with_reducible first | exact HK.out | apply KeepBut.set_ | apply keep_drewN | apply keep_drew | apply keep_alloc | refine keep_far ?_ GW257.out _) | exact HK.out)))); replace HK := A0_ (KeepBut.trans (by repeat (first | (with_reducible first | exact HK.out | apply KeepBut.set_ | apply keep_drewN | apply keep_drew | apply keep_alloc | refine keep_far ?_ GW257.out _) | exact HK.out)) hk (.inl rfl)); replace HB := A0_ (hb); replace HI0 := A0_ (hi); (try clear hb); (try clear ho0)) | ((with_reducible refine gD (N := 23) rfl ?_); refine Kd.R_make (Kd.int .i64) _ 3 rfl (N := 23) rfl 23 _ _ rfl ji5 rfl rfl Try.underlying23 (.int .i64 0) 8 info3 rfl (by decide) (by omega) 0 (ok := fun _ => True) (okp := fun _ => True) rfl (fun _ hk => hk) trivial (oD (by assumption)) (Nat.le_trans (Nat.mul_le_mul_right _ (oD (by assumption) : ji5.toNat ≤ 35184372088832)) (by omega)) (Below.refl _ _) (Nat.le_refl _) ?_; intro v265 w11 ho12 hb hg_ hnew_; clear hg_ hnew_; (first | rw [← Ny264.out] at ho12 | (simp only [Int.reduceToNat] at ho12; rw [← Ny264.out] at ho12)); have HO266 := A0_ (rL (Kd.R_new' ho12 (rX (zR_ HO262))) (keep_size (w := w) (g := g) (row := none) (by repeat (first | (with_reducible first | exact HK.out | apply KeepBut.set_ | apply keep_drewN | apply keep_drew | apply keep_alloc | refine keep_far ?_ GW257.out _) | exact HK.out)))); replace HO262 := A0_ (Kd.R_elder' (zR_ HO262) (Kd.R_base ho12) hb); replace BK257 := zK BK257 hb; replace HK := A0_ (KeepBut.trans (by repeat (first | (with_reducible first | exact HK.out | apply KeepBut.set_ | apply keep_drewN | apply keep_drew | apply keep_alloc | refine keep_far ?_ GW257.out _) | exact HK.out)) (KeepBut.of_below hb g none) (.inl rfl)); replace HB := A0_ (bT (by repeat (first | (with_reducible first | exact HB.out | apply bA | apply bN | apply bD | refine bS ?_ (IsS61.ge HI0.out) | refine bS ?_ GE257.out) | exact HB.out)) hb); replace HI0 := A0_ (IsS61.below (by repeat (first | (with_reducible first | exact HI0.out | apply IsS61.alloc | apply IsS61.drewN | apply IsS61.drew | apply IsS61.set_1 | refine IsS61.far ?_ NB0_257.out _) | exact HI0.out)) hb); clear hb ho12))
   go_loopg [8] k (fun kq v8 w' => ∃ (x7_1 : List Int) (x8_1 : Int), v8 = .int .i64 x8_1 ∧ Aside0 (spec_l91Map.l0 kq ji5 t260 x7_1 x8_1 s0_0 t263 = some (r1, r2, r3)) ∧ Aside0 (kq ≤ k) ∧ Aside0 (Kd.R (Kd.int .i64) 3 w' w.heap.size (fun k_ => some k_ ≠ (v265 : Value).ownBlock) v261 t260) ∧ Aside0 (Kd.R (Kd.int .i64) 3 w' w.heap.size (fun k_ => some k_ ≠ (v261 : Value).ownBlock) v265 x7_1) ∧ Aside0 (w'.heap[gb257]? = some (.cells #[(.slice none 0 0), (.slice none 0 0)] 25 (0, 0))) ∧ Aside0 (IsS61 w0 w' g s0_0 t263) ∧ Aside0 (KeepBut w w' g none) ∧ Aside0 (Below w0.heap.size w0 w'))
   case atStart => exact ⟨(y264), (0), zt, H', ⟨Nat.le_refl _⟩, ⟨zmR HO262 (fun _ hk => hk.2)⟩, ⟨zmR HO266 (fun _ hk => hk.2)⟩, ⟨zK_ BK257⟩, ⟨by repeat (first | (with_reducible first | exact HI0.out | apply IsS61.alloc | apply IsS61.drewN | apply IsS61.drew | apply IsS61.set_1 | refine IsS61.far ?_ NB0_257.out _) | exact HI0.out)⟩, ⟨by repeat (first | (with_reducible first | exact HK.out | apply KeepBut.set_ | apply keep_drewN | apply keep_drew | apply keep_alloc | refine keep_far ?_ GW257.out _) | exact HK.out)⟩, ⟨by repeat (first | (with_reducible first | exact HB.out | apply bA | apply bN | apply bD | refine bS ?_ (IsS61.ge HI0.out) | refine bS ?_ GE257.out) | exact HB.out)⟩⟩
   case round =>
    clear H'; (try clear c2); (try clear p2); (try clear c3); (try clear c6); (try clear c6b0); (try clear c6b1); (try clear p6); (try clear c7); (try clear c7b0); (try clear c7b1); obtain ⟨x7_1, x8_1, rfl, HA, HK1, HO_6, HO_7, BK257, HI0, HK, HB⟩ := hrel
    cases gk with
    | zero => exact absurd HA.out (by simp [spec_l91Map.l0])
    | succ k1 =>
     have H := HA.out; clear HA; simp only [spec_l91Map.l0] at H
     by_cases c13 : (wrap64 (x8_1 + 1)) < ji5
     ·rw [if_pos c13] at H
      have c13b0 : decide ((wrap64 (x8_1 + 1)) < ji5) = true := dT c13
      clear c13
      by_cases c14 : 0 ≤ x8_1
      ·rw [if_pos c14] at H
       have c14b0 : decide (0 ≤ x8_1) = true := dT c14
       clear c14
       by_cases c15 : x8_1 < (t260.length : Int)
       ·rw [if_pos c15] at H
        have c15b0 : decide (x8_1 < (t260.length : Int)) = true := dT c15
        clear c15
        obtain ⟨ji16, hji16⟩ : ∃ j_ : Int, (wrap64 (x8_1 + 1)) = j_ := ⟨_, rfl⟩
        replace H : (if 0 ≤ (ji16) then (if (ji16) < (t260.length : Int) then (if 0 ≤ (rd t260 x8_1) then (if (rd t260 x8_1) < (x7_1.length : Int) then (if 0 ≤ (rd t260 (ji16)) then (if (rd t260 (ji16)) < (x7_1.length : Int) then (spec_l91Map.l0 k1 ji5 t260 ((x7_1.set ((rd t260 x8_1) : Int).toNat (rd t260 (ji16))).set ((rd t260 (ji16)) : Int).toNat (rd t260 x8_1)) (wrap64 (x8_1 + 2)) s0_0 t263) else (none)) else (none)) else (none)) else (none)) else (none)) else (none)) = some (r1, r2, r3) := by first | (rw [hji16] at H; exact H) | (simp only [hji16] at H ⊢; exact H)
        (try rw [hji16] at c13b0)
        have hji16w : (IntKind.i64.wrap (x8_1 + 1)) = ji16 := (i64_w _).trans hji16
        by_cases c17 : 0 ≤ (ji16)
        ·rw [if_pos c17] at H
         have c17b0 : decide (0 ≤ (ji16)) = true := dT c17
         clear c17
         by_cases c18 : (ji16) < (t260.length : Int)
         ·rw [if_pos c18] at H
          have c18b0 : decide ((ji16) < (t260.length : Int)) = true := dT c18
          clear c18
          by_cases c19 : 0 ≤ (rd t260 x8_1)
          ·rw [if_pos c19] at H
           have c19b0 : decide (0 ≤ (rd t260 x8_1)) = true := dT c19
           clear c19
           by_cases c20 : (rd t260 x8_1) < (x7_1.length : Int)
           ·rw [if_pos c20] at H
            have c20b0 : decide ((rd t260 x8_1) < (x7_1.length : Int)) = true := dT c20
            clear c20
            obtain ⟨y269, hy269⟩ : ∃ y_ : List Int, y_ = (x7_1.set ((rd t260 x8_1) : Int).toNat (rd t260 (ji16))) := ⟨_, rfl⟩
            replace H : (if 0 ≤ (rd t260 (ji16)) then (if (rd t260 (ji16)) < (x7_1.length : Int) then (spec_l91Map.l0 k1 ji5 t260 (y269.set ((rd t260 (ji16)) : Int).toNat (rd t260 x8_1)) (wrap64 (x8_1 + 2)) s0_0 t263) else (none)) else (none)) = some (r1, r2, r3) := by first | (rw [hy269]; with_reducible exact H) | (have H2_ := (Option.bind_some _ _).symm.trans H; rw [hy269]; with_reducible exact H2_) | (have H2_ := (Option.bind_some _ _).symm.trans H; with_reducible exact H2_) | with_reducible exact H | (rw [hy269]; exact H) | exact H
            have Ny269 := A0_ hy269; clear hy269
            by_cases c22 : 0 ≤ (rd t260 (ji16))
            ·rw [if_pos c22] at H
             have c22b0 : decide (0 ≤ (rd t260 (ji16))) = true := dT c22
             clear c22
             by_cases c23 : (rd t260 (ji16)) < (x7_1.length : Int)
             ·rw [if_pos c23] at H
              have c23b0 : decide ((rd t260 (ji16)) < (x7_1.length : Int)) = true := dT c23
              clear c23
              obtain ⟨y272, hy272⟩ : ∃ y_ : List Int, y_ = (y269.set ((rd t260 (ji16)) : Int).toNat (rd t260 x8_1)) := ⟨_, rfl⟩
              replace H : (spec_l91Map.l0 k1 ji5 t260 y272 (wrap64 (x8_1 + 2)) s0_0 t263) = some (r1, r2, r3) := by first | (rw [hy272]; with_reducible exact H) | (have H2_ := (Option.bind_some _ _).symm.trans H; rw [hy272]; with_reducible exact H2_) | (have H2_ := (Option.bind_some _ _).symm.trans H; with_reducible exact H2_) | with_reducible exact H | (rw [hy272]; exact H) | exact H
              have Ny272 := A0_ hy272; clear hy272; have H' := A0_ H; clear H
              try go_wp2
              replace HO_6 := A0_ (rD HO_6.out)
              replace HO_7 := A0_ (rD HO_7.out)
              replace BK257 := A0_ (kD BK257.out)
              replace HI0 := A0_ (IsS61.drew HI0.out)
              replace HK := A0_ (keep_drew HK.out)
              replace HB := A0_ (bD HB.out)
              obtain ⟨Ao26, co26, eo26⟩ := rS HO_6.out
              (first | subst eo26 | (injection eo26 with f1_ f2_ f3_; have f4_ := f1_.symm; have f5_ := f3_.symm; clear f1_ f2_ f3_; subst f4_; subst f5_))
              have p267 : 0 ≤ (x8_1 : Int) := oD (by assumption)
              have q267 : x8_1 < (t260.length : Int) := oD (by assumption)
              obtain ⟨ad267, e267, hx267_0⟩ := tI (rR HO_6.out).2.2 x8_1 p267 q267
              cases e267
              replace p267 := eq_true p267; replace q267 := eq_true q267
              have p268 : 0 ≤ ((ji16) : Int) := oD (by assumption)
              have q268 : (ji16) < (t260.length : Int) := oD (by assumption)
              obtain ⟨ad268, e268, hx268_0⟩ := tI (rR HO_6.out).2.2 (ji16) p268 q268
              obtain rfl : ad267 = ad268 := (by injection e268)
              replace p268 := eq_true p268; replace q268 := eq_true q268
              have p21 : 0 ≤ ((rd t260 x8_1) : Int) := oD (by assumption)
              have q21 : ((rd t260 x8_1) : Int) < ((x7_1.length : Int) : Int) := oD (by assumption)
              obtain ⟨go21, co21, eo21, gb21, gl21, cl21, HG21⟩ := Kd.R_form HO_7.out (by omega)
              (first | cases eo21 | (injection eo21 with ea_ en_ ec_; (first | subst ea_ | (injection ea_ with ea_; subst ea_)); subst ec_; clear en_))
              have GB21 := A0_ gb21; have GG21 := A0_ HG21; clear gb21 gl21 HG21
              obtain ⟨hx21_0, hf21_0⟩ := Kd.R_celln 0 HO_7.out ((rd t260 x8_1) : Int) p21 q21
              replace p21 := eq_true p21; replace q21 := eq_true q21
              have HN0_go21 := A0_ (show g ≠ go21 from by have h_ := IsS61.own_ne HI0.out HO_7.out (by decide); intro e_; exact h_ (by rw [e_]; rfl))
              have HP27 := Kd.R_putn HO_7.out ((rd t260 x8_1) : Int) (rd t260 (ji16))
              rw [← Ny269.out] at HP27
              have HQ27 := A0_ HP27; clear HP27
              refine start_ (n := 12) (S := fun w' => w'.cell? (ad267.add (x8_1).toNat) = some (.int .i64 (rd t260 x8_1)) ∧ w'.cell? (ad267.add ((ji16)).toNat) = some (.int .i64 (rd t260 (ji16)))) (ds := [11]) #[false, false, false, false, false, false, false, false, false, false, false, false] (by kernel_rfl) rfl rfl ⟨hx267_0, hx268_0⟩ (fun hHeld => ?_); refine with_tabW spec_l91Map.tab7 spec_l91Map.bits7 (fun HT_ HW_ => ?_)
              generalize wr.drew = w25 at HO_6 HO_7 BK257 HI0 HK HB GG21 HQ27 hf21_0 hx21_0 hx267_0 hx268_0 hHeld ⊢
              refine pure_ (i := 0) (N := some 30) (v := ?_) (a' := ?_) #[true, false, false, false, false, false, false, false, false, false, false, false] rfl rfl (any_of HT_.out (by kernel_rfl)) (fun _ _ _ h => h) (Or.inl ⟨by rfl, ?_⟩) ?_ ?_
              rotate_left
              ·intro w'
               go_simp
               with_reducible rfl
              rotate_left
              ·simp only [Act.put, List.setIfInBounds_toArray, List.set_cons_zero, List.set_cons_succ, i64_w, i32_w]
               rfl
              refine pure_ (i := 1) (N := some 31) (v := ?_) (a' := ?_) #[true, true, false, false, false, false, false, false, false, false, false, false] rfl rfl (any_of HT_.out (by kernel_rfl)) (fun _ _ _ h => h) (Or.inl ⟨by rfl, ?_⟩) ?_ ?_
              rotate_left
              ·intro w'
               go_simp
               with_reducible rfl
              rotate_left
              ·simp only [Act.put, List.setIfInBounds_toArray, List.set_cons_zero, List.set_cons_succ, i64_w, i32_w]
               rfl
              refine pure_ (i := 2) (N := some 32) (v := ?_) (a' := ?_) #[true, true, true, false, false, false, false, false, false, false, false, false] rfl rfl (any_of HT_.out (by kernel_rfl)) (fun _ _ _ h => h) (Or.inl ⟨by rfl, ?_⟩) ?_ ?_
              rotate_left
              ·intro w'
               go_simp
               with_reducible rfl
              rotate_left
              ·simp only [Act.put, List.setIfInBounds_toArray, List.set_cons_zero, List.set_cons_succ, i64_w, i32_w]
               rfl
              refine pure_ (i := 3) (N := some 33) (v := ?_) (a' := ?_) #[true, true, true, true, false, false, false, false, false, false, false, false] rfl rfl (any_of HT_.out (by kernel_rfl)) (fun _ _ _ h => h) (Or.inl ⟨by rfl, ?_⟩) ?_ ?_
              rotate_left
              ·intro w'
               go_simp
               with_reducible rfl
              rotate_left
              ·simp only [Act.put, List.setIfInBounds_toArray, List.set_cons_zero, List.set_cons_succ, i64_w, i32_w]
               rfl
              refine pure_ (i := 5) (N := some 35) (v := ?_) (a' := ?_) #[true, true, true, true, false, true, false, false, false, false, false, false] rfl rfl (any_of HT_.out (by kernel_rfl)) (fun _ _ _ h => h) (Or.inl ⟨by rfl, ?_⟩) ?_ ?_
              rotate_left
              ·intro w'
               go_simp
               with_reducible rfl
              rotate_left
              ·simp only [Act.put, List.setIfInBounds_toArray, List.set_cons_zero, List.set_cons_succ, i64_w, i32_w]
               rfl
              refine pure_ (i := 6) (N := some 36) (v := ?_) (a' := ?_) #[true, true, true, true, false, true, true, false, false, false, false, false] rfl rfl (any_of HT_.out (by kernel_rfl)) (fun _ _ _ h => h) (Or.inl ⟨by rfl, ?_⟩) ?_ ?_
              rotate_left
              ·intro w'
               go_simp
               with_reducible rfl
              rotate_left
              ·simp only [Act.put, List.setIfInBounds_toArray, List.set_cons_zero, List.set_cons_succ, i64_w, i32_w]
               rfl
              refine pure_ (i := 7) (N := some 37) (v := ?_) (a' := ?_) #[true, true, true, true, false, true, true, true, false, false, false, false] rfl rfl (any_of HT_.out (by kernel_rfl)) (fun _ _ _ h => h) (Or.inl ⟨by rfl, ?_⟩) ?_ ?_
              rotate_left
              ·intro w'
               go_simp
               with_reducible rfl
              rotate_left
              ·simp only [Act.put, List.setIfInBounds_toArray, List.set_cons_zero, List.set_cons_succ, i64_w, i32_w]
               rfl
              refine pure_ (i := 8) (N := some 38) (v := ?_) (a' := ?_) #[true, true, true, true, false, true, true, true, true, false, false, false] rfl rfl (any_of HT_.out (by kernel_rfl)) (fun _ _ _ h => h) (Or.inl ⟨by rfl, ?_⟩) ?_ ?_
              rotate_left
              ·intro w'
               go_simp
               with_reducible rfl
              rotate_left
              ·simp only [Act.put, List.setIfInBounds_toArray, List.set_cons_zero, List.set_cons_succ, i64_w, i32_w]
               rfl
              refine take_ (i := 4) (N := some 34) (v := ?_) (a' := ?_) #[true, true, true, true, true, true, true, true, true, false, false, false] rfl rfl (take_ofW HT_.out HW_.out (by kernel_rfl)) (fun _ _ _ h => h) (Or.inl ⟨by rfl, ?_⟩) hHeld ?_ ?_
              rotate_left
              ·rintro w' ⟨s0, s1⟩
               go_simp
               with_reducible rfl
              rotate_left
              ·simp only [Act.put, List.setIfInBounds_toArray, List.set_cons_zero, List.set_cons_succ, i64_w, i32_w]
               rfl
              refine take_ (i := 9) (N := some 39) (v := ?_) (a' := ?_) #[true, true, true, true, true, true, true, true, true, true, false, false] rfl rfl (take_ofW HT_.out HW_.out (by kernel_rfl)) (fun _ _ _ h => h) (Or.inl ⟨by rfl, ?_⟩) hHeld ?_ ?_
              rotate_left
              ·rintro w' ⟨s0, s1⟩
               go_simp
               with_reducible rfl
              rotate_left
              ·simp only [Act.put, List.setIfInBounds_toArray, List.set_cons_zero, List.set_cons_succ, i64_w, i32_w]
               rfl
              refine pure_ (i := 10) (N := some 40) (v := ?_) (a' := ?_) #[true, true, true, true, true, true, true, true, true, true, true, false] rfl rfl (any_of HT_.out (by kernel_rfl)) (fun _ _ _ h => h) (Or.inl ⟨by rfl, ?_⟩) ?_ ?_
              rotate_left
              ·intro w'
               go_simp
               with_reducible rfl
              rotate_left
              ·simp only [Act.put, List.setIfInBounds_toArray, List.set_cons_zero, List.set_cons_succ, i64_w, i32_w]
               rfl
              refine last_ (i := 11) (N := none) #[true, true, true, true, true, true, true, true, true, true, true, true] rfl rfl (one_of HT_.out (by kernel_rfl)) (by decide) (fun K hK => ?_)
              refine skip_ (w1 := ?_) (by rfl) rfl ?_ ?_
              rotate_left
              ·go_simp
               rfl
              refine hK.out _ _ ?_
              clear hK K
              refine done_ (done_of HT_.out (by kernel_rfl)) ?_
              try go_wp2
              have n0_ : Aside0 (Kd.R (Kd.int .i64) 3 (w25.setCell ⟨go21, ((rd t260 x8_1) : Int).toNat, none⟩ (.int .i64 (rd t260 (ji16)))) w.heap.size (fun k_ => some k_ ≠ (.slice (some ⟨go21, 0, none⟩) x7_1.length co21 : Value).ownBlock) (.slice (some ad267) t260.length co26) t260) := ⟨by (with_reducible repeat (first | apply rA | apply rN | apply rD)); exact rM (rF (p := ⟨go21, ((rd t260 x8_1) : Int).toNat, none⟩) (rM HO_6.out (fun k_ hk => (⟨hk, fun e_ => hk (by rw [e_]; rfl)⟩ : _ ∧ k_ ≠ go21))) (fun _ hk => hk.2) (.int .i64 (rd t260 (ji16)))) (fun _ hk => hk.1)⟩
              have n1_ : Aside0 (Kd.R (Kd.int .i64) 3 (w25.setCell ⟨go21, ((rd t260 x8_1) : Int).toNat, none⟩ (.int .i64 (rd t260 (ji16)))) w.heap.size (fun k_ => some k_ ≠ (.slice (some ad267) t260.length co26 : Value).ownBlock) (.slice (some ⟨go21, 0, none⟩) x7_1.length co21) y269) := ⟨zR_ HQ27⟩
              have n2_ : Aside0 ((w25.setCell ⟨go21, ((rd t260 x8_1) : Int).toNat, none⟩ (.int .i64 (rd t260 (ji16)))).heap[gb257]? = some (.cells #[.slice none 0 0, .slice none 0 0] 25 (0, 0))) := ⟨by (with_reducible repeat (first | refine kN ?_ _ | refine kD ?_ | refine kA ?_ _)); refine blk_far ?_ (by have h_ := Kd.R_ne HO_7.out BK257.out (by decide); intro e_; exact h_ (by rw [e_]; rfl)) _; (with_reducible repeat (first | refine kN ?_ _ | refine kD ?_ | refine kA ?_ _)); exact BK257.out⟩
              have n3_ : Aside0 (IsS61 w0 (w25.setCell ⟨go21, ((rd t260 x8_1) : Int).toNat, none⟩ (.int .i64 (rd t260 (ji16)))) g s0_0 t263) := ⟨by repeat (first | (with_reducible first | exact HI0.out | apply IsS61.alloc | apply IsS61.drewN | apply IsS61.drew | apply IsS61.set_1 | refine IsS61.far ?_ HN0_go21.out _ | refine IsS61.far ?_ NB0_257.out _) | exact HI0.out)⟩
              have n4_ : Aside0 (KeepBut w (w25.setCell ⟨go21, ((rd t260 x8_1) : Int).toNat, none⟩ (.int .i64 (rd t260 (ji16)))) g none) := ⟨by repeat (first | (with_reducible first | exact HK.out | apply KeepBut.set_ | apply keep_drewN | apply keep_drew | apply keep_alloc | refine keep_far ?_ GB21.out _ | refine keep_far ?_ GW257.out _) | exact HK.out)⟩
              have n5_ : Aside0 (Below w0.heap.size w0 (w25.setCell ⟨go21, ((rd t260 x8_1) : Int).toNat, none⟩ (.int .i64 (rd t260 (ji16))))) := ⟨by repeat (first | (with_reducible first | exact HB.out | apply bA | apply bN | apply bD | refine bS ?_ (Nat.le_trans HL.out GB21.out) | refine bS ?_ (IsS61.ge HI0.out) | refine bS ?_ GE257.out) | exact HB.out)⟩
              (try clear HO_6); (try clear HO_7); (try clear BK257); (try clear HI0); (try clear HK); (try clear HB)
              generalize (w25.setCell ⟨go21, ((rd t260 x8_1) : Int).toNat, none⟩ (.int .i64 (rd t260 (ji16)))) = w28 at n0_ n1_ n2_ n3_ n4_ n5_ ⊢
              have HO_6 := n0_; have HO_7 := n1_; have BK257 := n2_; have HI0 := n3_; have HK := n4_; have HB := n5_; clear n0_ n1_ n2_ n3_ n4_ n5_
              replace HO_6 := A0_ (rD HO_6.out)
              replace HO_7 := A0_ (rD HO_7.out)
              replace BK257 := A0_ (kD BK257.out)
              replace HI0 := A0_ (IsS61.drew HI0.out)
              replace HK := A0_ (keep_drew HK.out)
              replace HB := A0_ (bD HB.out)
              have p270 : 0 ≤ ((ji16) : Int) := oD (by assumption)
              have q270 : (ji16) < (t260.length : Int) := oD (by assumption)
              obtain ⟨ad270, e270, hx270_0⟩ := tI (rR HO_6.out).2.2 (ji16) p270 q270
              obtain rfl : ad267 = ad270 := (by injection e270)
              replace p270 := eq_true p270; replace q270 := eq_true q270
              have p271 : 0 ≤ (x8_1 : Int) := oD (by assumption)
              have q271 : x8_1 < (t260.length : Int) := oD (by assumption)
              obtain ⟨ad271, e271, hx271_0⟩ := tI (rR HO_6.out).2.2 x8_1 p271 q271
              obtain rfl : ad267 = ad271 := (by injection e271)
              replace p271 := eq_true p271; replace q271 := eq_true q271
              have p24 : 0 ≤ ((rd t260 (ji16)) : Int) := oD (by assumption)
              have q24 : ((rd t260 (ji16)) : Int) < ((x7_1.length : Int) : Int) := oD (by assumption)
              obtain ⟨hx24_0, hf24_0⟩ := Kd.R_celln 0 HO_7.out ((rd t260 (ji16)) : Int) p24 q24
              replace p24 := eq_true p24; replace q24 := eq_true q24
              have HN0_go21 := A0_ (show g ≠ go21 from by have h_ := IsS61.own_ne HI0.out HO_7.out (by decide); intro e_; exact h_ (by rw [e_]; rfl))
              have HP30 := Kd.R_putn HO_7.out ((rd t260 (ji16)) : Int) (rd t260 x8_1)
              rw [← Ny272.out] at HP30
              have HQ30 := A0_ HP30; clear HP30
              refine start_ (n := 12) (S := fun w' => w'.cell? (ad267.add ((ji16)).toNat) = some (.int .i64 (rd t260 (ji16))) ∧ w'.cell? (ad267.add (x8_1).toNat) = some (.int .i64 (rd t260 x8_1))) (ds := [11]) #[false, false, false, false, false, false, false, false, false, false, false, false] (by kernel_rfl) rfl rfl ⟨hx270_0, hx271_0⟩ (fun hHeld => ?_); refine with_tabW spec_l91Map.tab8 spec_l91Map.bits8 (fun HT_ HW_ => ?_)
              generalize w28.drew = w29 at HO_6 HO_7 BK257 HI0 HK HB HQ27 HQ30 hf24_0 hx24_0 hx270_0 hx271_0 hHeld ⊢
              refine pure_ (i := 0) (N := some 41) (v := ?_) (a' := ?_) #[true, false, false, false, false, false, false, false, false, false, false, false] rfl rfl (any_of HT_.out (by kernel_rfl)) (fun _ _ _ h => h) (Or.inl ⟨by rfl, ?_⟩) ?_ ?_
              rotate_left
              ·intro w'
               go_simp
               with_reducible rfl
              rotate_left
              ·simp only [Act.put, List.setIfInBounds_toArray, List.set_cons_zero, List.set_cons_succ, i64_w, i32_w]
               rfl
              refine pure_ (i := 1) (N := some 42) (v := ?_) (a' := ?_) #[true, true, false, false, false, false, false, false, false, false, false, false] rfl rfl (any_of HT_.out (by kernel_rfl)) (fun _ _ _ h => h) (Or.inl ⟨by rfl, ?_⟩) ?_ ?_
              rotate_left
              ·intro w'
               go_simp
               with_reducible rfl
              rotate_left
              ·simp only [Act.put, List.setIfInBounds_toArray, List.set_cons_zero, List.set_cons_succ, i64_w, i32_w]
               rfl
              refine pure_ (i := 2) (N := some 43) (v := ?_) (a' := ?_) #[true, true, true, false, false, false, false, false, false, false, false, false] rfl rfl (any_of HT_.out (by kernel_rfl)) (fun _ _ _ h => h) (Or.inl ⟨by rfl, ?_⟩) ?_ ?_
              rotate_left
              ·intro w'
               go_simp
               with_reducible rfl
              rotate_left
              ·simp only [Act.put, List.setIfInBounds_toArray, List.set_cons_zero, List.set_cons_succ, i64_w, i32_w]
               rfl
              refine pure_ (i := 3) (N := some 44) (v := ?_) (a' := ?_) #[true, true, true, true, false, false, false, false, false, false, false, false] rfl rfl (any_of HT_.out (by kernel_rfl)) (fun _ _ _ h => h) (Or.inl ⟨by rfl, ?_⟩) ?_ ?_
              rotate_left
              ·intro w'
               go_simp
               with_reducible rfl
              rotate_left
              ·simp only [Act.put, List.setIfInBounds_toArray, List.set_cons_zero, List.set_cons_succ, i64_w, i32_w]
               rfl
              refine pure_ (i := 4) (N := some 45) (v := ?_) (a' := ?_) #[true, true, true, true, true, false, false, false, false, false, false, false] rfl rfl (any_of HT_.out (by kernel_rfl)) (fun _ _ _ h => h) (Or.inl ⟨by rfl, ?_⟩) ?_ ?_
              rotate_left
              ·intro w'
               go_simp
               with_reducible rfl
              rotate_left
              ·simp only [Act.put, List.setIfInBounds_toArray, List.set_cons_zero, List.set_cons_succ, i64_w, i32_w]
               rfl
              refine pure_ (i := 6) (N := some 47) (v := ?_) (a' := ?_) #[true, true, true, true, true, false, true, false, false, false, false, false] rfl rfl (any_of HT_.out (by kernel_rfl)) (fun _ _ _ h => h) (Or.inl ⟨by rfl, ?_⟩) ?_ ?_
              rotate_left
              ·intro w'
               go_simp
               with_reducible rfl
              rotate_left
              ·simp only [Act.put, List.setIfInBounds_toArray, List.set_cons_zero, List.set_cons_succ, i64_w, i32_w]
               rfl
              refine pure_ (i := 7) (N := some 48) (v := ?_) (a' := ?_) #[true, true, true, true, true, false, true, true, false, false, false, false] rfl rfl (any_of HT_.out (by kernel_rfl)) (fun _ _ _ h => h) (Or.inl ⟨by rfl, ?_⟩) ?_ ?_
              rotate_left
              ·intro w'
               go_simp
               with_reducible rfl
              rotate_left
              ·simp only [Act.put, List.setIfInBounds_toArray, List.set_cons_zero, List.set_cons_succ, i64_w, i32_w]
               rfl
              refine pure_ (i := 8) (N := some 49) (v := ?_) (a' := ?_) #[true, true, true, true, true, false, true, true, true, false, false, false] rfl rfl (any_of HT_.out (by kernel_rfl)) (fun _ _ _ h => h) (Or.inl ⟨by rfl, ?_⟩) ?_ ?_
              rotate_left
              ·intro w'
               go_simp
               with_reducible rfl
              rotate_left
              ·simp only [Act.put, List.setIfInBounds_toArray, List.set_cons_zero, List.set_cons_succ, i64_w, i32_w]
               rfl
              refine take_ (i := 5) (N := some 46) (v := ?_) (a' := ?_) #[true, true, true, true, true, true, true, true, true, false, false, false] rfl rfl (take_ofW HT_.out HW_.out (by kernel_rfl)) (fun _ _ _ h => h) (Or.inl ⟨by rfl, ?_⟩) hHeld ?_ ?_
              rotate_left
              ·rintro w' ⟨s0, s1⟩
               go_simp
               with_reducible rfl
              rotate_left
              ·simp only [Act.put, List.setIfInBounds_toArray, List.set_cons_zero, List.set_cons_succ, i64_w, i32_w]
               rfl
              refine take_ (i := 9) (N := some 50) (v := ?_) (a' := ?_) #[true, true, true, true, true, true, true, true, true, true, false, false] rfl rfl (take_ofW HT_.out HW_.out (by kernel_rfl)) (fun _ _ _ h => h) (Or.inl ⟨by rfl, ?_⟩) hHeld ?_ ?_
              rotate_left
              ·rintro w' ⟨s0, s1⟩
               go_simp
               with_reducible rfl
              rotate_left
              ·simp only [Act.put, List.setIfInBounds_toArray, List.set_cons_zero, List.set_cons_succ, i64_w, i32_w]
               rfl
              refine pure_ (i := 10) (N := some 51) (v := ?_) (a' := ?_) #[true, true, true, true, true, true, true, true, true, true, true, false] rfl rfl (any_of HT_.out (by kernel_rfl)) (fun _ _ _ h => h) (Or.inl ⟨by rfl, ?_⟩) ?_ ?_
              rotate_left
              ·intro w'
               go_simp
               with_reducible rfl
              rotate_left
              ·simp only [Act.put, List.setIfInBounds_toArray, List.set_cons_zero, List.set_cons_succ, i64_w, i32_w]
               rfl
              refine last_ (i := 11) (N := none) #[true, true, true, true, true, true, true, true, true, true, true, true] rfl rfl (one_of HT_.out (by kernel_rfl)) (by decide) (fun K hK => ?_)
              refine skip_ (w1 := ?_) (by rfl) rfl ?_ ?_
              rotate_left
              ·go_simp
               rfl
              refine hK.out _ _ ?_
              clear hK K
              refine done_ (done_of HT_.out (by kernel_rfl)) ?_
              try go_wp2
              go_roundg k1
              case measure => have := HK1.out; omega
              case rel => exact ⟨(y272), (wrap64 (x8_1 + 2)), zt, H', ⟨by have := HK1.out; omega⟩, ⟨by (with_reducible repeat (first | apply rA | apply rN | apply rD)); exact rM (rF (p := ⟨go21, ((rd t260 (ji16)) : Int).toNat, none⟩) (rM HO_6.out (fun k_ hk => (⟨hk, fun e_ => hk (by rw [e_]; rfl)⟩ : _ ∧ k_ ≠ go21))) (fun _ hk => hk.2) (.int .i64 (rd t260 x8_1))) (fun _ hk => hk.1)⟩, ⟨zR_ HQ30⟩, ⟨by (with_reducible repeat (first | refine kN ?_ _ | refine kD ?_ | refine kA ?_ _)); refine blk_far ?_ (by have h_ := Kd.R_ne HO_7.out BK257.out (by decide); intro e_; exact h_ (by rw [e_]; rfl)) _; (with_reducible repeat (first | refine kN ?_ _ | refine kD ?_ | refine kA ?_ _)); exact BK257.out⟩, ⟨by repeat (first | (with_reducible first | exact HI0.out | apply IsS61.alloc | apply IsS61.drewN | apply IsS61.drew | apply IsS61.set_1 | refine IsS61.far ?_ HN0_go21.out _ | refine IsS61.far ?_ NB0_257.out _) | exact HI0.out)⟩, ⟨by repeat (first | (with_reducible first | exact HK.out | apply KeepBut.set_ | apply keep_drewN | apply keep_drew | apply keep_alloc | refine keep_far ?_ GB21.out _ | refine keep_far ?_ GW257.out _) | exact HK.out)⟩, ⟨by repeat (first | (with_reducible first | exact HB.out | apply bA | apply bN | apply bD | refine bS ?_ (Nat.le_trans HL.out GB21.out) | refine bS ?_ (IsS61.ge HI0.out) | refine bS ?_ GE257.out) | exact HB.out)⟩⟩
             rw [if_neg c23] at H
             exact absurd H (by simp)
            rw [if_neg c22] at H
            exact absurd H (by simp)
           rw [if_neg c20] at H
           exact absurd H (by simp)
          rw [if_neg c19] at H
          exact absurd H (by simp)
         rw [if_neg c18] at H
         exact absurd H (by simp)
        rw [if_neg c17] at H
        exact absurd H (by simp)
       rw [if_neg c15] at H
       exact absurd H (by simp)
      rw [if_neg c14] at H
      exact absurd H (by simp)
     rw [if_neg c13] at H
     have c13b0 : decide ((wrap64 (x8_1 + 1)) < ji5) = false := dF c13
     clear c13; obtain ⟨⟨t273, t276⟩, A31, H⟩ := zbind H; dsimp only at H; have H' := A0_ H; clear H
     go_wp2_with (first | ((with_reducible refine gC (f := 24) rfl ?_); refine goesL_ (some 54) rfl rfl Try.func24 (by kernel_rfl) rfl #[.pointer (some ⟨g, 0, none⟩), .int .i64 ji5] rfl (by (try simp only [List.map_toArray, List.map_cons, List.map_nil]); first | done | (simp only [hji5]; rfl) | rfl | (simp only [List.length_drop, List.length_take]; rfl)) ?_; (with_reducible refine (spec_l91Perm.calls k1 g s0_0 t263 ji5 t273 t276 w0 _ ?side1 ?side2 A31.out).mono ?_); (case side1 => repeat (first | (with_reducible first | exact HI0.out | apply IsS61.alloc | apply IsS61.drewN | apply IsS61.drew | apply IsS61.set_1 | refine IsS61.far ?_ NB0_257.out _) | exact HI0.out)); (case side2 => repeat (first | (with_reducible first | exact HB.out | apply bA | apply bN | apply bD | refine bS ?_ (IsS61.ge HI0.out) | refine bS ?_ GE257.out) | exact HB.out)); rintro e w32 ⟨v274, rfl, ho0, hi, hb, hk⟩; refine ⟨_, rfl, ?_⟩; replace BK257 := A0_ (KeepBut.blk hk (g' := gb257) (o := .cells #[.slice none 0 0, .slice none 0 0] 25 (0, 0)) (zK_ BK257) NB257_0.out (by simp)); have HO275 := A0_ (rL (Kd.R_new' (Kd.R_new' ho0 (rX (zR_ HO_6))) (rX (zR_ HO_7))) (keep_size (w := w) (g := g) (row := none) (by repeat (first | (with_reducible first | exact HK.out | apply KeepBut.set_ | apply keep_drewN | apply keep_drew | apply keep_alloc | refine keep_far ?_ GW257.out _) | exact HK.out)))); replace HO_6 := A0_ (rM (rT (Kd.R_oldK (IsS61.apart (show IsS61 w0 _ g s0_0 t263 from by repeat (first | (with_reducible first | exact HI0.out | apply IsS61.alloc | apply IsS61.drewN | apply IsS61.drew | apply IsS61.set_1 | refine IsS61.far ?_ NB0_257.out _) | exact HI0.out)) (zR_ HO_6) (by decide)) hk) (Kd.R_base ho0)) (fun _ h_ => h_.1)); replace HO_7 := A0_ (rM (rT (Kd.R_oldK (IsS61.apart (show IsS61 w0 _ g s0_0 t263 from by repeat (first | (with_reducible first | exact HI0.out | apply IsS61.alloc | apply IsS61.drewN | apply IsS61.drew | apply IsS61.set_1 | refine IsS61.far ?_ NB0_257.out _) | exact HI0.out)) (zR_ HO_7) (by decide)) hk) (Kd.R_base ho0)) (fun _ h_ => h_.1)); replace HK := A0_ (KeepBut.trans (by repeat (first | (with_reducible first | exact HK.out | apply KeepBut.set_ | apply keep_drewN | apply keep_drew | apply keep_alloc | refine keep_far ?_ GW257.out _) | exact HK.out)) hk (.inl rfl)); replace HB := A0_ (hb); replace HI0 := A0_ (hi); (try clear hb); (try clear ho0); obtain ⟨Ao33, co33, eo33⟩ := rS HO_7.out; subst eo33; obtain ⟨Ao34, co34, eo34⟩ := rS HO275.out; subst eo34) | ((with_reducible refine gD (N := 9) rfl ?_); refine box_event ?hg (N := 9) ?hd (cs := #[.slice none 0 0, .slice none 0 0]) (t := 25) ?hr ?_; (case hd => rfl); (case hg => rfl); (case hr => first | (go_simp; done) | (go_simp; rfl)); intro gb277 hg w35 hbox hb; replace HO_6 := zR HO_6 hb; replace HO_7 := zR HO_7 hb; replace HO275 := zR HO275 hb; replace HB := A0_ (bT (by repeat (first | (with_reducible first | exact HB.out | apply bA | apply bN | apply bD | refine bS ?_ (IsS61.ge HI0.out) | refine bS ?_ GE257.out) | exact HB.out)) hb); have BK277 := A0_ (hbox); have GW277 := A0_ ((by rw [hg]; exact (keep_size (w := w) (g := g) (row := none) (by repeat (first | (with_reducible first | exact HK.out | apply KeepBut.set_ | apply keep_drewN | apply keep_drew | apply keep_alloc | refine keep_far ?_ GW257.out _) | exact HK.out))) : w.heap.size ≤ gb277)); have GE277 := A0_ ((Nat.le_trans HW0.out (by rw [hg]; exact (keep_size (w := w) (g := g) (row := none) (by repeat (first | (with_reducible first | exact HK.out | apply KeepBut.set_ | apply keep_drewN | apply keep_drew | apply keep_alloc | refine keep_far ?_ GW257.out _) | exact HK.out))) : w.heap.size ≤ gb277) : w0.heap.size ≤ gb277)); replace HK := A0_ (KeepBut.trans (by repeat (first | (with_reducible first | exact HK.out | apply KeepBut.set_ | apply keep_drewN | apply keep_drew | apply keep_alloc | refine keep_far ?_ GW257.out _) | exact HK.out)) (KeepBut.of_below hb g none) (.inl rfl)); have NB257_277 := zL hg BK257; have NB277_257 := zM hg BK257; replace BK257 := zK BK257 hb; have NB0_277 := A0_ ((by rw [hg]; exact Nat.ne_of_lt (IsS61.lt (show IsS61 w0 _ g s0_0 t276 from by repeat (first | (with_reducible first | exact HI0.out | apply IsS61.alloc | apply IsS61.drewN | apply IsS61.drew | apply IsS61.set_1 | refine IsS61.far ?_ NB0_257.out _) | exact HI0.out))) : g ≠ gb277)); have NB277_0 := A0_ ((by rw [hg]; exact Nat.ne_of_gt (IsS61.lt (show IsS61 w0 _ g s0_0 t276 from by repeat (first | (with_reducible first | exact HI0.out | apply IsS61.alloc | apply IsS61.drewN | apply IsS61.drew | apply IsS61.set_1 | refine IsS61.far ?_ NB0_257.out _) | exact HI0.out))) : gb277 ≠ g)); replace HI0 := A0_ (IsS61.below (by repeat (first | (with_reducible first | exact HI0.out | apply IsS61.alloc | apply IsS61.drewN | apply IsS61.drew | apply IsS61.set_1 | refine IsS61.far ?_ NB0_257.out _) | exact HI0.out)) hb); clear hb hbox hg; have hnb36 := NB277_257.out; have hnc36 := NB257_277.out; have hnb37 := NB277_0.out; have hnc37 := NB0_277.out; have hcz38_0 : w35.cell? ⟨gb277, 0, none⟩ = some (.slice none 0 0) := (kC BK277.out 0).trans rfl; have hcz38_1 : w35.cell? ⟨gb277, 1, none⟩ = some (.slice none 0 0) := (kC BK277.out 1).trans rfl; have hfz38_0 := kF BK277.out 0; have hfz38_1 := kF BK277.out 1))
     go_loopg [10] k1 (fun kq v10 w' => ∃ (x10_2 : Int) (x278000_2 : List Int) (x278001_2 : List Int) (u278000 : Value) (u278001 : Value), v10 = .int .i64 x10_2 ∧ Aside0 (spec_l91Map.l1 kq ji5 x10_2 s0_0 t276 x278000_2 x278001_2 = some (r1, r2, r3)) ∧ Aside0 (kq ≤ k1) ∧ Aside0 (Kd.Q (Kd.int .i64) 3 w' w.heap.size (fun k_ => some k_ ≠ (u278001 : Value).ownBlock) u278000 x278000_2) ∧ Aside0 (Kd.R (Kd.int .i64) 3 w' w.heap.size (fun k_ => some k_ ≠ (u278000 : Value).ownBlock) u278001 x278001_2) ∧ Aside0 (w'.heap[gb257]? = some (.cells #[(.slice none 0 0), (.slice none 0 0)] 25 (0, 0))) ∧ Aside0 (w'.heap[gb277]? = some (.cells #[u278000, u278001] 25 (0, 0))) ∧ Aside0 (IsS61 w0 w' g s0_0 t276) ∧ Aside0 (KeepBut w w' g none) ∧ Aside0 (Below w0.heap.size w0 w'))
     case atStart => exact ⟨(0), (t273), (x7_1), (.slice Ao34 t273.length co34), (.slice Ao33 x7_1.length co33), zt, H', ⟨Nat.le_refl _⟩, ⟨Kd.Q_of_R (by (with_reducible repeat (first | apply rA | apply rN | apply rD)); exact rM (rF (p := ⟨gb277, 1, none⟩) (rF (p := ⟨gb277, 0, none⟩) (rY HO275.out BK277.out (by decide)) (fun _ hk => hk.2) (.slice Ao34 t273.length co34)) (fun _ hk => hk.2) (.slice Ao33 x7_1.length co33)) (fun _ hk => hk.1.2))⟩, ⟨by (with_reducible repeat (first | apply rA | apply rN | apply rD)); exact rM (rF (p := ⟨gb277, 1, none⟩) (rF (p := ⟨gb277, 0, none⟩) (rY HO_7.out BK277.out (by decide)) (fun _ hk => hk.2) (.slice Ao34 t273.length co34)) (fun _ hk => hk.2) (.slice Ao33 x7_1.length co33)) (fun _ hk => hk.1.2)⟩, ⟨by (with_reducible repeat (first | refine kN ?_ _ | refine kD ?_ | refine kA ?_ _)); refine blk_far ?_ NB257_277.out _; (with_reducible repeat (first | refine kN ?_ _ | refine kD ?_ | refine kA ?_ _)); refine blk_far ?_ NB257_277.out _; (with_reducible repeat (first | refine kN ?_ _ | refine kD ?_ | refine kA ?_ _)); exact BK257.out⟩, ⟨by (with_reducible repeat (first | refine kN ?_ _ | refine kD ?_ | refine kA ?_ _)); refine blk_put (cs := #[.slice Ao34 t273.length co34, .slice none 0 0]) ?_ 1 _ rfl; (with_reducible repeat (first | refine kN ?_ _ | refine kD ?_ | refine kA ?_ _)); refine blk_put (cs := #[.slice none 0 0, .slice none 0 0]) ?_ 0 _ rfl; (with_reducible repeat (first | refine kN ?_ _ | refine kD ?_ | refine kA ?_ _)); exact BK277.out⟩, ⟨by repeat (first | (with_reducible first | exact HI0.out | apply IsS61.alloc | apply IsS61.drewN | apply IsS61.drew | apply IsS61.set_1 | refine IsS61.far ?_ NB0_257.out _ | refine IsS61.far ?_ NB0_277.out _) | exact HI0.out)⟩, ⟨by repeat (first | (with_reducible first | exact HK.out | apply KeepBut.set_ | apply keep_drewN | apply keep_drew | apply keep_alloc | refine keep_far ?_ GW257.out _ | refine keep_far ?_ GW277.out _) | exact HK.out)⟩, ⟨by repeat (first | (with_reducible first | exact HB.out | apply bA | apply bN | apply bD | refine bS ?_ (IsS61.ge HI0.out) | refine bS ?_ GE257.out | refine bS ?_ GE277.out) | exact HB.out)⟩⟩
     case round =>
      clear H'; (try clear c1); (try clear c2); (try clear p2); (try clear q2); (try clear hx2); (try clear hf2); (try clear c3); (try clear c6); (try clear c6b0); (try clear c6b1); (try clear p6); (try clear c7); (try clear c7b0); (try clear c7b1); (try clear c13); (try clear c13b0); (try clear c14); (try clear c14b0); (try clear c15); (try clear c15b0); (try clear c17); (try clear c17b0); (try clear c18); (try clear c18b0); (try clear c19); (try clear c19b0); (try clear c20); (try clear c20b0); (try clear p21); (try clear q21); (try clear hx21); (try clear hf21); (try clear c22); (try clear c22b0); (try clear c23); (try clear c23b0); (try clear c24); (try clear p24); (try clear q24); (try clear hx24); (try clear hf24); (try clear p26); (try clear q26); (try clear hx26); (try clear p27); (try clear q27); (try clear hx27); (try clear c35); (try clear c36); (try clear c37); (try clear hcz38_0); (try clear hcz38_1); (try clear hfz38_0); (try clear hfz38_1); (try clear hx21_0); (try clear hx24_0); (try clear hx267_0); (try clear hx268_0); (try clear hx270_0); (try clear hx271_0); (try clear p2); (try clear p21); (try clear p24); (try clear p267); (try clear p268); (try clear p270); (try clear p271); (try clear p6); (try clear q21); (try clear q24); (try clear q267); (try clear q268); (try clear q270); (try clear q271); obtain ⟨x10_2, x278000_2, x278001_2, u278000, u278001, rfl, HA, HK2, HO_278000, HO_278001, BK257, BK277, HI0, HK, HB⟩ := hrel
      cases gk with
      | zero => exact absurd HA.out (by simp [spec_l91Map.l1])
      | succ k2 =>
       have H := HA.out; clear HA; simp only [spec_l91Map.l1] at H; have HC39 := A0_ H; clear H
       go_upto_region 11 with (fail)
       go_cut [64] (fun v64 wc => ∃ (kq : Nat) (x64_38 : Bool), v64 = .bool x64_38 ∧ Aside0 (spec_l91Map.j2 kq ji5 x10_2 x64_38 s0_0 t276 x278000_2 x278001_2 = some (r1, r2, r3)) ∧ Aside0 (kq ≤ k2) ∧ Aside0 (Kd.Q (Kd.int .i64) 3 wc w.heap.size (fun k_ => some k_ ≠ (u278001 : Value).ownBlock) u278000 x278000_2) ∧ Aside0 (Kd.R (Kd.int .i64) 3 wc w.heap.size (fun k_ => some k_ ≠ (u278000 : Value).ownBlock) u278001 x278001_2) ∧ Aside0 (wc.heap[gb257]? = some (.cells #[(.slice none 0 0), (.slice none 0 0)] 25 (0, 0))) ∧ Aside0 (wc.heap[gb277]? = some (.cells #[u278000, u278001] 25 (0, 0))) ∧ Aside0 (IsS61 w0 wc g s0_0 t276) ∧ Aside0 (KeepBut w wc g none) ∧ Aside0 (Below w0.heap.size w0 wc))
       case first =>
        have H := HC39.out; clear HC39
        by_cases c40 : x10_2 < ji5
        ·rw [if_pos c40] at H
         have c40b0 : decide (x10_2 < ji5) = true := dT c40
         clear c40
         (first | rw [c40b0] | (simp only [i64_w, i32_w]; rw [c40b0]) | skip)
         obtain ⟨t278, A41, H⟩ := zbind H; have H' := A0_ H; clear H; have hnb42 := NB277_257.out; have hnc42 := NB257_277.out; have hnb43 := NB277_0.out; have hnc43 := NB0_277.out
         have hcz44_0 : wr.cell? ⟨gb277, 0, none⟩ = some (u278000) := (kC BK277.out 0).trans rfl
         have hcz44_1 : wr.cell? ⟨gb277, 1, none⟩ = some (u278001) := (kC BK277.out 1).trans rfl
         have hfz44_0 := kF BK277.out 0; have hfz44_1 := kF BK277.out 1; obtain ⟨Ao45, co45, eo45, _⟩ := Kd.Q_slice HO_278000.out; subst eo45; obtain ⟨Ao46, co46, eo46⟩ := rS HO_278001.out; subst eo46
         go_wp2_with (first | (go_at_call 30; (with_reducible refine (spec_MapValid.calls k2 _ _ x278000_2 _ _ x278001_2 t278 _ ?side1 ?side2 ?side3 ?side4 A41.out).mono ?_); (case side1 => repeat (first | exact (Kd.Q_reads' HO_278000.out).2.2 | (with_reducible refine cA ?_ _) | (with_reducible refine cN ?_ _) | (with_reducible refine cD ?_))); (case side2 => exact (Kd.Q_reads' HO_278000.out).2.1); (case side3 => repeat (first | exact (rR HO_278001.out).2.2 | (with_reducible refine cA ?_ _) | (with_reducible refine cN ?_ _) | (with_reducible refine cD ?_))); (case side4 => exact (rR HO_278001.out).2.1); rintro e w47 ⟨rfl, hb⟩; replace HO_278000 := A0_ (Kd.Q_below (by (with_reducible repeat (first | apply Kd.Q_alloc | apply Kd.Q_drewN | apply Kd.Q_drew)); exact HO_278000.out) hb); replace HO_278001 := zR HO_278001 hb; replace BK257 := zK BK257 hb; replace BK277 := zK BK277 hb; replace HK := A0_ (KeepBut.trans (by repeat (first | (with_reducible first | exact HK.out | apply KeepBut.set_ | apply keep_drewN | apply keep_drew | apply keep_alloc | refine keep_far ?_ GW257.out _ | refine keep_far ?_ GW277.out _) | exact HK.out)) (KeepBut.of_below hb g none) (.inl rfl)); replace HB := A0_ (bT (by repeat (first | (with_reducible first | exact HB.out | apply bA | apply bN | apply bD | refine bS ?_ (IsS61.ge HI0.out) | refine bS ?_ GE257.out | refine bS ?_ GE277.out) | exact HB.out)) hb); replace HI0 := A0_ (IsS61.below (by repeat (first | (with_reducible first | exact HI0.out | apply IsS61.alloc | apply IsS61.drewN | apply IsS61.drew | apply IsS61.set_1 | refine IsS61.far ?_ NB0_257.out _ | refine IsS61.far ?_ NB0_277.out _) | exact HI0.out)) hb); (try clear hb)))
         go_meet
         case rel => exact ⟨_, (!t278), zt, H', ⟨by have := HK1.out; have := HK2.out; first | omega | exact Nat.le_refl _⟩, ⟨by (with_reducible repeat (first | apply Kd.Q_alloc | apply Kd.Q_drewN | apply Kd.Q_drew)); exact HO_278000.out⟩, ⟨zR_ HO_278001⟩, ⟨zK_ BK257⟩, ⟨zK_ BK277⟩, ⟨by repeat (first | (with_reducible first | exact HI0.out | apply IsS61.alloc | apply IsS61.drewN | apply IsS61.drew | apply IsS61.set_1 | refine IsS61.far ?_ NB0_257.out _ | refine IsS61.far ?_ NB0_277.out _) | exact HI0.out)⟩, ⟨by repeat (first | (with_reducible first | exact HK.out | apply KeepBut.set_ | apply keep_drewN | apply keep_drew | apply keep_alloc | refine keep_far ?_ GW257.out _ | refine keep_far ?_ GW277.out _) | exact HK.out)⟩, ⟨by repeat (first | (with_reducible first | exact HB.out | apply bA | apply bN | apply bD | refine bS ?_ (IsS61.ge HI0.out) | refine bS ?_ GE257.out | refine bS ?_ GE277.out) | exact HB.out)⟩⟩
        rw [if_neg c40] at H
        have c40b0 : decide (x10_2 < ji5) = false := dF c40
        clear c40
        (first | rw [c40b0] | (simp only [i64_w, i32_w]; rw [c40b0]) | skip)
        have H' := A0_ H; clear H
        go_wp2
        go_meet
        case rel => exact ⟨_, (false), zt, H', ⟨by have := HK1.out; have := HK2.out; first | omega | exact Nat.le_refl _⟩, ⟨by (with_reducible repeat (first | apply Kd.Q_alloc | apply Kd.Q_drewN | apply Kd.Q_drew)); exact HO_278000.out⟩, ⟨zR_ HO_278001⟩, ⟨zK_ BK257⟩, ⟨zK_ BK277⟩, ⟨by repeat (first | (with_reducible first | exact HI0.out | apply IsS61.alloc | apply IsS61.drewN | apply IsS61.drew | apply IsS61.set_1 | refine IsS61.far ?_ NB0_257.out _ | refine IsS61.far ?_ NB0_277.out _) | exact HI0.out)⟩, ⟨by repeat (first | (with_reducible first | exact HK.out | apply KeepBut.set_ | apply keep_drewN | apply keep_drew | apply keep_alloc | refine keep_far ?_ GW257.out _ | refine keep_far ?_ GW277.out _) | exact HK.out)⟩, ⟨by repeat (first | (with_reducible first | exact HB.out | apply bA | apply bN | apply bD | refine bS ?_ (IsS61.ge HI0.out) | refine bS ?_ GE257.out | refine bS ?_ GE277.out) | exact HB.out)⟩⟩
       case rest =>
        clear HC39; (try clear c1); (try clear c2); (try clear p2); (try clear q2); (try clear hx2); (try clear hf2); (try clear c3); (try clear c4); (try clear c6); (try clear c6b0); (try clear c6b1); (try clear p6); (try clear c7); (try clear c7b0); (try clear c7b1); (try clear c13); (try clear c13b0); (try clear c14); (try clear c14b0); (try clear c15); (try clear c15b0); (try clear c17); (try clear c17b0); (try clear c18); (try clear c18b0); (try clear c19); (try clear c19b0); (try clear c20); (try clear c20b0); (try clear p21); (try clear q21); (try clear hx21); (try clear hf21); (try clear c22); (try clear c22b0); (try clear c23); (try clear c23b0); (try clear c24); (try clear p24); (try clear q24); (try clear hx24); (try clear hf24); (try clear p26); (try clear q26); (try clear hx26); (try clear p27); (try clear q27); (try clear hx27); (try clear c35); (try clear c36); (try clear c37); (try clear c40); (try clear c40b0); (try clear c42); (try clear c43); (try clear hcz38_0); (try clear hcz38_1); (try clear hcz44_0); (try clear hcz44_1); (try clear hfz38_0); (try clear hfz38_1); (try clear hfz44_0); (try clear hfz44_1); (try clear hx21_0); (try clear hx24_0); (try clear hx267_0); (try clear hx268_0); (try clear hx270_0); (try clear hx271_0); (try clear p2); (try clear p21); (try clear p24); (try clear p26); (try clear p267); (try clear p268); (try clear p27); (try clear p270); (try clear p271); (try clear p6); (try clear q2); (try clear q21); (try clear q24); (try clear q26); (try clear q267); (try clear q268); (try clear q27); (try clear q270); (try clear q271); obtain ⟨kq, x64_38, rfl, HA, HJ38, HO_278000, HO_278001, BK257, BK277, HI0, HK, HB⟩ := hcut
        cases kq with
        | zero => exact absurd HA.out (by simp [spec_l91Map.j2])
        | succ kj38 =>
         have H := HA.out; clear HA; simp only [spec_l91Map.j2] at H
         by_cases c48 : x64_38 = true
         ·subst c48
          have H1 : ((spec_l1Orbits.f kj38 x278000_2 x278001_2).bind fun t279 => (spec_l91Map.l2 kj38 ji5 x10_2 t279 0 s0_0 t276 x278000_2 x278001_2)) = some (r1, r2, r3) := by rw [if_pos rfl] at H; exact H
          clear H; have H := H1; clear H1; obtain ⟨t279, A49, H⟩ := zbind H; have H' := A0_ H; clear H; have hnb50 := NB277_257.out; have hnc50 := NB257_277.out; have hnb51 := NB277_0.out; have hnc51 := NB0_277.out
          have hcz52_0 : wc.cell? ⟨gb277, 0, none⟩ = some (u278000) := (kC BK277.out 0).trans rfl
          have hcz52_1 : wc.cell? ⟨gb277, 1, none⟩ = some (u278001) := (kC BK277.out 1).trans rfl
          have hfz52_0 := kF BK277.out 0; have hfz52_1 := kF BK277.out 1; obtain ⟨Ao53, co53, eo53, _⟩ := Kd.Q_slice HO_278000.out; subst eo53; obtain ⟨Ao54, co54, eo54⟩ := rS HO_278001.out; subst eo54
          go_wp2_with (first | ((with_reducible refine gC (f := 41) rfl ?_); refine goesL_ (some 71) rfl rfl Try.func41 (by kernel_rfl) rfl #[.slice Ao53 x278000_2.length co53, .slice Ao54 x278001_2.length co54] rfl (by (try simp only [List.map_toArray, List.map_cons, List.map_nil]); first | done | rfl) ?_; (with_reducible refine (spec_l1Orbits.calls kj38 _ _ x278000_2 _ _ x278001_2 t279 _ ?side1 ?side2 ?side3 ?side4 A49.out).mono ?_); (case side1 => repeat (first | exact (Kd.Q_reads' HO_278000.out).2.2 | (with_reducible refine cA ?_ _) | (with_reducible refine cN ?_ _) | (with_reducible refine cD ?_))); (case side2 => exact (Kd.Q_reads' HO_278000.out).2.1); (case side3 => repeat (first | exact (rR HO_278001.out).2.2 | (with_reducible refine cA ?_ _) | (with_reducible refine cN ?_ _) | (with_reducible refine cD ?_))); (case side4 => exact (rR HO_278001.out).2.1); rintro e w55 ⟨v280, rfl, ho0, hb⟩; refine ⟨_, rfl, ?_⟩; have HO281 := A0_ (rL (Kd.R_new' (Kd.R_new' ho0 (Kd.Q_lt (by (with_reducible repeat (first | apply Kd.Q_alloc | apply Kd.Q_drewN | apply Kd.Q_drew)); exact HO_278000.out))) (rX (zR_ HO_278001))) (keep_size (w := w) (g := g) (row := none) (by repeat (first | (with_reducible first | exact HK.out | apply KeepBut.set_ | apply keep_drewN | apply keep_drew | apply keep_alloc | refine keep_far ?_ GW257.out _ | refine keep_far ?_ GW277.out _) | exact HK.out)))); replace HO_278000 := A0_ (Kd.Q_elder' (by (with_reducible repeat (first | apply Kd.Q_alloc | apply Kd.Q_drewN | apply Kd.Q_drew)); exact HO_278000.out) (Kd.R_base ho0) hb); replace HO_278001 := A0_ (Kd.R_elder' (zR_ HO_278001) (Kd.R_base ho0) hb); replace BK257 := zK BK257 hb; replace BK277 := zK BK277 hb; replace HK := A0_ (KeepBut.trans (by repeat (first | (with_reducible first | exact HK.out | apply KeepBut.set_ | apply keep_drewN | apply keep_drew | apply keep_alloc | refine keep_far ?_ GW257.out _ | refine keep_far ?_ GW277.out _) | exact HK.out)) (KeepBut.of_below hb g none) (.inl rfl)); replace HB := A0_ (bT (by repeat (first | (with_reducible first | exact HB.out | apply bA | apply bN | apply bD | refine bS ?_ (IsS61.ge HI0.out) | refine bS ?_ GE257.out | refine bS ?_ GE277.out) | exact HB.out)) hb); replace HI0 := A0_ (IsS61.below (by repeat (first | (with_reducible first | exact HI0.out | apply IsS61.alloc | apply IsS61.drewN | apply IsS61.drew | apply IsS61.set_1 | refine IsS61.far ?_ NB0_257.out _ | refine IsS61.far ?_ NB0_277.out _) | exact HI0.out)) hb); (try clear hb); (try clear ho0)))
          go_loopg [12] kj38 (fun kq v12 w' => ∃ (x12_4 : Int), v12 = .int .i64 x12_4 ∧ Aside0 (spec_l91Map.l2 kq ji5 x10_2 t279 x12_4 s0_0 t276 x278000_2 x278001_2 = some (r1, r2, r3)) ∧ Aside0 (kq ≤ kj38) ∧ Aside0 (Kd.R (Kd.int .i64) 3 w' w.heap.size (fun k_ => some k_ ≠ ((.slice Ao53 x278000_2.length co53) : Value).ownBlock ∧ some k_ ≠ ((.slice Ao54 x278001_2.length co54) : Value).ownBlock) v280 t279) ∧ Aside0 (Kd.Q (Kd.int .i64) 3 w' w.heap.size (fun k_ => some k_ ≠ (v280 : Value).ownBlock ∧ some k_ ≠ ((.slice Ao54 x278001_2.length co54) : Value).ownBlock) (.slice Ao53 x278000_2.length co53) x278000_2) ∧ Aside0 (Kd.R (Kd.int .i64) 3 w' w.heap.size (fun k_ => some k_ ≠ (v280 : Value).ownBlock ∧ some k_ ≠ ((.slice Ao53 x278000_2.length co53) : Value).ownBlock) (.slice Ao54 x278001_2.length co54) x278001_2) ∧ Aside0 (w'.heap[gb257]? = some (.cells #[(.slice none 0 0), (.slice none 0 0)] 25 (0, 0))) ∧ Aside0 (w'.heap[gb277]? = some (.cells #[(.slice Ao53 x278000_2.length co53), (.slice Ao54 x278001_2.length co54)] 25 (0, 0))) ∧ Aside0 (IsS61 w0 w' g s0_0 t276) ∧ Aside0 (KeepBut w w' g none) ∧ Aside0 (Below w0.heap.size w0 w'))
          case atStart => exact ⟨(0), zt, H', ⟨Nat.le_refl _⟩, ⟨zmR HO281 (fun _ hk => ⟨hk.1.2, hk.2⟩)⟩, ⟨by (with_reducible repeat (first | apply Kd.Q_alloc | apply Kd.Q_drewN | apply Kd.Q_drew)); exact Kd.Q_mono HO_278000.out (fun _ hk => ⟨hk.2, hk.1⟩)⟩, ⟨zmR HO_278001 (fun _ hk => ⟨hk.2, hk.1⟩)⟩, ⟨zK_ BK257⟩, ⟨zK_ BK277⟩, ⟨by repeat (first | (with_reducible first | exact HI0.out | apply IsS61.alloc | apply IsS61.drewN | apply IsS61.drew | apply IsS61.set_1 | refine IsS61.far ?_ NB0_257.out _ | refine IsS61.far ?_ NB0_277.out _) | exact HI0.out)⟩, ⟨by repeat (first | (with_reducible first | exact HK.out | apply KeepBut.set_ | apply keep_drewN | apply keep_drew | apply keep_alloc | refine keep_far ?_ GW257.out _ | refine keep_far ?_ GW277.out _) | exact HK.out)⟩, ⟨by repeat (first | (with_reducible first | exact HB.out | apply bA | apply bN | apply bD | refine bS ?_ (IsS61.ge HI0.out) | refine bS ?_ GE257.out | refine bS ?_ GE277.out) | exact HB.out)⟩⟩
          case round =>
           clear H'; (try clear c1); (try clear c2); (try clear p2); (try clear q2); (try clear hx2); (try clear hf2); (try clear c3); (try clear c4); (try clear c5); (try clear c6); (try clear c6b0); (try clear c6b1); (try clear p6); (try clear c7); (try clear c7b0); (try clear c7b1); (try clear c13); (try clear c13b0); (try clear c14); (try clear c14b0); (try clear c15); (try clear c15b0); (try clear c17); (try clear c17b0); (try clear c18); (try clear c18b0); (try clear c19); (try clear c19b0); (try clear c20); (try clear c20b0); (try clear p21); (try clear q21); (try clear hx21); (try clear hf21); (try clear c22); (try clear c22b0); (try clear c23); (try clear c23b0); (try clear c24); (try clear p24); (try clear q24); (try clear hx24); (try clear hf24); (try clear p26); (try clear q26); (try clear hx26); (try clear p27); (try clear q27); (try clear hx27); (try clear c35); (try clear c36); (try clear c37); (try clear c40); (try clear c40b0); (try clear c41); (try clear c42); (try clear c43); (try clear c48); (try clear c50); (try clear c51); (try clear hcz38_0); (try clear hcz38_1); (try clear hcz44_0); (try clear hcz44_1); (try clear hcz52_0); (try clear hcz52_1); (try clear hfz38_0); (try clear hfz38_1); (try clear hfz44_0); (try clear hfz44_1); (try clear hfz52_0); (try clear hfz52_1); (try clear hx21_0); (try clear hx24_0); (try clear hx267_0); (try clear hx268_0); (try clear hx270_0); (try clear hx271_0); (try clear p2); (try clear p21); (try clear p24); (try clear p26); (try clear p267); (try clear p268); (try clear p27); (try clear p270); (try clear p271); (try clear p6); (try clear q2); (try clear q21); (try clear q24); (try clear q26); (try clear q267); (try clear q268); (try clear q27); (try clear q270); (try clear q271); obtain ⟨x12_4, rfl, HA, HK4, HO_11, HO_278000, HO_278001, BK257, BK277, HI0, HK, HB⟩ := hrel
           cases gk with
           | zero => exact absurd HA.out (by simp [spec_l91Map.l2])
           | succ k4 =>
            have H := HA.out; clear HA; simp only [spec_l91Map.l2] at H
            by_cases c56 : 0 ≤ x12_4
            ·rw [if_pos c56] at H
             have c56b0 : decide (0 ≤ x12_4) = true := dT c56
             clear c56
             by_cases c57 : x12_4 < (t279.length : Int)
             ·rw [if_pos c57] at H
              have c57b0 : decide (x12_4 < (t279.length : Int)) = true := dT c57
              clear c57
              by_cases c58 : (rd t279 x12_4) = 0
              ·rw [if_pos c58] at H
               have c58b0 : ((rd t279 x12_4) == 0) = true := beq_iff_eq.mpr c58
               have c58b1 : ((rd t279 x12_4) != 0) = false := bne_eq_false_iff_eq.mpr c58
               clear c58; have H' := A0_ H; clear H; obtain ⟨Ao59, co59, eo59⟩ := rS HO_11.out; subst eo59
               have p282 : 0 ≤ (x12_4 : Int) := oD (by assumption)
               have q282 : x12_4 < (t279.length : Int) := oD (by assumption)
               obtain ⟨ad282, e282, hx282_0⟩ := tI (rR HO_11.out).2.2 x12_4 p282 q282
               cases e282
               replace p282 := eq_true p282; replace q282 := eq_true q282
               go_wp2
               go_roundg k4
               case measure => have := HK1.out; have := HK2.out; have := HJ38.out; have := HK4.out; omega
               case rel => exact ⟨(wrap64 (x12_4 + 1)), zt, H', ⟨by have := HK1.out; have := HK2.out; have := HJ38.out; have := HK4.out; omega⟩, ⟨zR_ HO_11⟩, ⟨by (with_reducible repeat (first | apply Kd.Q_alloc | apply Kd.Q_drewN | apply Kd.Q_drew)); exact HO_278000.out⟩, ⟨zR_ HO_278001⟩, ⟨zK_ BK257⟩, ⟨zK_ BK277⟩, ⟨by repeat (first | (with_reducible first | exact HI0.out | apply IsS61.alloc | apply IsS61.drewN | apply IsS61.drew | apply IsS61.set_1 | refine IsS61.far ?_ NB0_257.out _ | refine IsS61.far ?_ NB0_277.out _) | exact HI0.out)⟩, ⟨by repeat (first | (with_reducible first | exact HK.out | apply KeepBut.set_ | apply keep_drewN | apply keep_drew | apply keep_alloc | refine keep_far ?_ GW257.out _ | refine keep_far ?_ GW277.out _) | exact HK.out)⟩, ⟨by repeat (first | (with_reducible first | exact HB.out | apply bA | apply bN | apply bD | refine bS ?_ (IsS61.ge HI0.out) | refine bS ?_ GE257.out | refine bS ?_ GE277.out) | exact HB.out)⟩⟩
              rw [if_neg c58] at H
              have c58b0 : ((rd t279 x12_4) == 0) = false := beq_eq_false_iff_ne.mpr c58
              have c58b1 : ((rd t279 x12_4) != 0) = true := bne_iff_ne.mpr c58
              by_cases c60 : 0 < (x278000_2.length : Int)
              ·rw [if_pos c60] at H
               have c60b0 : decide (0 < (x278000_2.length : Int)) = true := dT c60
               have c60b1 : decide (0 < x278000_2.length) = true := dT (by omega)
               clear c60
               by_cases c61 : x12_4 < (x278000_2.length : Int)
               ·rw [if_pos c61] at H
                have c61b0 : decide (x12_4 < (x278000_2.length : Int)) = true := dT c61
                clear c61
                obtain ⟨y285, hy285⟩ : ∃ y_ : List Int, y_ = (x278000_2.set (0 : Int).toNat (rd x278000_2 x12_4)) := ⟨_, rfl⟩
                replace H : (spec_l91Map.l1 k4 ji5 (wrap64 (x10_2 + 1)) s0_0 t276 (y285.set (x12_4 : Int).toNat (rd x278000_2 0)) x278001_2) = some (r1, r2, r3) := by first | (rw [hy285]; with_reducible exact H) | (have H2_ := (Option.bind_some _ _).symm.trans H; rw [hy285]; with_reducible exact H2_) | (have H2_ := (Option.bind_some _ _).symm.trans H; with_reducible exact H2_) | with_reducible exact H | (rw [hy285]; exact H) | exact H
                have Ny285 := A0_ hy285; clear hy285
                obtain ⟨y286, hy286⟩ : ∃ y_ : List Int, y_ = (y285.set (x12_4 : Int).toNat (rd x278000_2 0)) := ⟨_, rfl⟩
                replace H : (spec_l91Map.l1 k4 ji5 (wrap64 (x10_2 + 1)) s0_0 t276 y286 x278001_2) = some (r1, r2, r3) := by first | (rw [hy286]; with_reducible exact H) | (have H2_ := (Option.bind_some _ _).symm.trans H; rw [hy286]; with_reducible exact H2_) | (have H2_ := (Option.bind_some _ _).symm.trans H; with_reducible exact H2_) | with_reducible exact H | (rw [hy286]; exact H) | exact H
                have Ny286 := A0_ hy286; clear hy286; have H' := A0_ H; clear H; obtain ⟨Ao64, co64, eo64⟩ := rS HO_11.out; subst eo64
                have p282 : 0 ≤ (x12_4 : Int) := oD (by assumption)
                have q282 : x12_4 < (t279.length : Int) := oD (by assumption)
                obtain ⟨ad282, e282, hx282_0⟩ := tI (rR HO_11.out).2.2 x12_4 p282 q282
                cases e282
                replace p282 := eq_true p282; replace q282 := eq_true q282; have hnb65 := NB277_257.out; have hnc65 := NB257_277.out; have hnb66 := NB277_0.out; have hnc66 := NB0_277.out
                have hcz67_0 : wr.cell? ⟨gb277, 0, none⟩ = some (.slice Ao53 x278000_2.length co53) := (kC BK277.out 0).trans rfl
                have hcz67_1 : wr.cell? ⟨gb277, 1, none⟩ = some (.slice Ao54 x278001_2.length co54) := (kC BK277.out 1).trans rfl
                have hfz67_0 := kF BK277.out 0; have hfz67_1 := kF BK277.out 1
                have p283 : 0 ≤ (0 : Int) := (by omega)
                have q283 : 0 < (x278000_2.length : Int) := oD (by assumption)
                obtain ⟨ad283, e283, hx283_0⟩ := tI (Kd.Q_reads' HO_278000.out).2.2 0 p283 q283
                cases e283
                have qi283 : (0 < x278000_2.length) = True := eq_true (by omega)
                (try rw [show ((0 : Int)).toNat = 0 from rfl] at hx283_0)
                (try rw [Addr.add_zero'] at hx283_0)
                replace p283 := eq_true p283; replace q283 := eq_true q283
                try go_wp2
                replace HO_11 := A0_ (rD HO_11.out)
                replace HO_278000 := A0_ (Kd.Q_drew HO_278000.out)
                replace HO_278001 := A0_ (rD HO_278001.out)
                replace BK257 := A0_ (kD BK257.out)
                replace BK277 := A0_ (kD BK277.out)
                replace HI0 := A0_ (IsS61.drew HI0.out)
                replace HK := A0_ (keep_drew HK.out)
                replace HB := A0_ (bD HB.out)
                have p284 : 0 ≤ (x12_4 : Int) := oD (by assumption)
                have q284 : x12_4 < (x278000_2.length : Int) := oD (by assumption)
                obtain ⟨ad284, e284, hx284_0⟩ := tI (Kd.Q_reads' HO_278000.out).2.2 x12_4 p284 q284
                obtain rfl : ad283 = ad284 := (by injection e284)
                replace p284 := eq_true p284; replace q284 := eq_true q284
                have p62 : 0 ≤ (0 : Int) := (by omega)
                have q62 : (0 : Int) < ((x278000_2.length : Int) : Int) := oD (by assumption)
                have qi62 : (0 < x278000_2.length) = True := eq_true (by omega)
                obtain ⟨go62, oo62, co62, eo62, gb62, gl62, cl62, HG62⟩ := Kd.Q_form HO_278000.out (by omega)
                (first | cases eo62 | (injection eo62 with ea_ en_ ec_; (first | subst ea_ | (injection ea_ with ea_; subst ea_)); subst ec_; clear en_))
                have GB62 := A0_ gb62; have GG62 := A0_ HG62; clear gb62 gl62 HG62
                (first | simp only [add_at] at hx283_0 | skip)
                (first | simp only [add_at] at hx284_0 | skip)
                obtain ⟨hx62_0, hf62_0⟩ := Kd.Q_cell 0 HO_278000.out (0 : Int) p62 q62
                (try rw [show ((0 : Int)).toNat = 0 from rfl] at hx62_0)
                (try simp only [Nat.reduceMul, Nat.zero_mul, Nat.zero_add, Nat.add_zero, Nat.reduceAdd] at hx62_0)
                (try rw [show ((0 : Int)).toNat = 0 from rfl] at hf62_0)
                (try simp only [Nat.reduceMul, Nat.zero_mul, Nat.zero_add, Nat.add_zero, Nat.reduceAdd] at hf62_0)
                replace p62 := eq_true p62; replace q62 := eq_true q62
                have HN0_go62 := A0_ (show g ≠ go62 from by have h_ := IsS61.own_neQ HI0.out HO_278000.out (by decide); intro e_; exact h_ (by rw [e_]; rfl))
                have HP69 := (Kd.Q_putg HO_278000.out (0 : Int) (by omega) (by have h_ : (0 : Int) < ((x278000_2.length : Int) : Int) := oD (by assumption); first | exact h_ | (have e_ := (Kd.Q_reads' HO_278000.out).1; omega) | simpa using h_) (rd x278000_2 x12_4)).1
                rw [← Ny285.out] at HP69
                have HQ69 := A0_ HP69; clear HP69
                refine start_ (n := 9) (S := fun w' => w'.cell? ⟨gb277, 0, none⟩ = some (.slice (some ⟨go62, oo62, none⟩) x278000_2.length co53) ∧ w'.cell? ⟨gb277, 1, none⟩ = some (.slice Ao54 x278001_2.length co54) ∧ w'.cell? ⟨go62, oo62 + (x12_4).toNat, none⟩ = some (.int .i64 (rd x278000_2 x12_4))) (ds := [8]) #[false, false, false, false, false, false, false, false, false] (by kernel_rfl) rfl rfl ⟨(kC BK277.out 0).trans rfl, (kC BK277.out 1).trans rfl, hx284_0⟩ (fun hHeld => ?_); refine with_tabW spec_l91Map.tab18 spec_l91Map.bits18 (fun HT_ HW_ => ?_)
                generalize wr.drew = w68 at HO_11 HO_278000 HO_278001 BK257 BK277 HI0 HK HB GG62 HQ69 hf62_0 hx283_0 hx284_0 hx62_0 hHeld ⊢
                refine pure_ (i := 0) (N := some 83) (v := ?_) (a' := ?_) #[true, false, false, false, false, false, false, false, false] rfl rfl (any_of HT_.out (by kernel_rfl)) (fun _ _ _ h => h) (Or.inl ⟨by rfl, ?_⟩) ?_ ?_
                rotate_left
                ·intro w'
                 go_simp
                 with_reducible rfl
                rotate_left
                ·simp only [Act.put, List.setIfInBounds_toArray, List.set_cons_zero, List.set_cons_succ, i64_w, i32_w]
                 rfl
                refine pure_ (i := 2) (N := some 85) (v := ?_) (a' := ?_) #[true, false, true, false, false, false, false, false, false] rfl rfl (any_of HT_.out (by kernel_rfl)) (fun _ _ _ h => h) (Or.inl ⟨by rfl, ?_⟩) ?_ ?_
                rotate_left
                ·intro w'
                 go_simp
                 with_reducible rfl
                rotate_left
                ·simp only [Act.put, List.setIfInBounds_toArray, List.set_cons_zero, List.set_cons_succ, i64_w, i32_w]
                 rfl
                refine pure_ (i := 4) (N := some 87) (v := ?_) (a' := ?_) #[true, false, true, false, true, false, false, false, false] rfl rfl (any_of HT_.out (by kernel_rfl)) (fun _ _ _ h => h) (Or.inl ⟨by rfl, ?_⟩) ?_ ?_
                rotate_left
                ·intro w'
                 go_simp
                 with_reducible rfl
                rotate_left
                ·simp only [Act.put, List.setIfInBounds_toArray, List.set_cons_zero, List.set_cons_succ, i64_w, i32_w]
                 rfl
                refine take_ (i := 1) (N := some 84) (v := ?_) (a' := ?_) #[true, true, true, false, true, false, false, false, false] rfl rfl (take_ofW HT_.out HW_.out (by kernel_rfl)) (fun _ _ _ h => h) (Or.inl ⟨by rfl, ?_⟩) hHeld ?_ ?_
                rotate_left
                ·rintro w' ⟨s0, s1, s2⟩
                 go_simp
                 with_reducible rfl
                rotate_left
                ·simp only [Act.put, List.setIfInBounds_toArray, List.set_cons_zero, List.set_cons_succ, i64_w, i32_w]
                 rfl
                refine take_ (i := 3) (N := some 86) (v := ?_) (a' := ?_) #[true, true, true, true, true, false, false, false, false] rfl rfl (take_ofW HT_.out HW_.out (by kernel_rfl)) (fun _ _ _ h => h) (Or.inl ⟨by rfl, ?_⟩) hHeld ?_ ?_
                rotate_left
                ·rintro w' ⟨s0, s1, s2⟩
                 go_simp
                 with_reducible rfl
                rotate_left
                ·simp only [Act.put, List.setIfInBounds_toArray, List.set_cons_zero, List.set_cons_succ, i64_w, i32_w]
                 rfl
                refine pure_ (i := 5) (N := some 88) (v := ?_) (a' := ?_) #[true, true, true, true, true, true, false, false, false] rfl rfl (any_of HT_.out (by kernel_rfl)) (fun _ _ _ h => h) (Or.inl ⟨by rfl, ?_⟩) ?_ ?_
                rotate_left
                ·intro w'
                 go_simp
                 with_reducible rfl
                rotate_left
                ·simp only [Act.put, List.setIfInBounds_toArray, List.set_cons_zero, List.set_cons_succ, i64_w, i32_w]
                 rfl
                refine take_ (i := 6) (N := some 89) (v := ?_) (a' := ?_) #[true, true, true, true, true, true, true, false, false] rfl rfl (take_ofW HT_.out HW_.out (by kernel_rfl)) (fun _ _ _ h => h) (Or.inl ⟨by rfl, ?_⟩) hHeld ?_ ?_
                rotate_left
                ·rintro w' ⟨s0, s1, s2⟩
                 go_simp
                 with_reducible rfl
                rotate_left
                ·simp only [Act.put, List.setIfInBounds_toArray, List.set_cons_zero, List.set_cons_succ, i64_w, i32_w]
                 rfl
                refine pure_ (i := 7) (N := some 90) (v := ?_) (a' := ?_) #[true, true, true, true, true, true, true, true, false] rfl rfl (any_of HT_.out (by kernel_rfl)) (fun _ _ _ h => h) (Or.inl ⟨by rfl, ?_⟩) ?_ ?_
                rotate_left
                ·intro w'
                 go_simp
                 with_reducible rfl
                rotate_left
                ·simp only [Act.put, List.setIfInBounds_toArray, List.set_cons_zero, List.set_cons_succ, i64_w, i32_w]
                 rfl
                refine last_ (i := 8) (N := none) #[true, true, true, true, true, true, true, true, true] rfl rfl (one_of HT_.out (by kernel_rfl)) (by decide) (fun K hK => ?_)
                refine skip_ (w1 := ?_) (by rfl) rfl ?_ ?_
                rotate_left
                ·go_simp
                 rfl
                refine hK.out _ _ ?_
                clear hK K
                refine done_ (done_of HT_.out (by kernel_rfl)) ?_
                have n0_ : Aside0 (Kd.R (Kd.int .i64) 3 (w68.setCell ⟨go62, oo62, none⟩ (.int .i64 (rd x278000_2 x12_4))) w.heap.size (fun k_ => some k_ ≠ (.slice (some ⟨go62, oo62, none⟩) x278000_2.length co53 : Value).ownBlock ∧ some k_ ≠ (.slice Ao54 x278001_2.length co54 : Value).ownBlock) (.slice (some ad282) t279.length co64) t279) := ⟨by (with_reducible repeat (first | apply rA | apply rN | apply rD)); exact rM (rF (p := ⟨go62, oo62, none⟩) (rM HO_11.out (fun k_ hk => (⟨hk, fun e_ => hk.1 (by rw [e_]; rfl)⟩ : _ ∧ k_ ≠ go62))) (fun _ hk => hk.2) (.int .i64 (rd x278000_2 x12_4))) (fun _ hk => ⟨hk.1.1, hk.1.2⟩)⟩
                have n1_ : Aside0 (Kd.Q (Kd.int .i64) 3 (w68.setCell ⟨go62, oo62, none⟩ (.int .i64 (rd x278000_2 x12_4))) w.heap.size (fun k_ => some k_ ≠ (.slice (some ad282) t279.length co64 : Value).ownBlock ∧ some k_ ≠ (.slice Ao54 x278001_2.length co54 : Value).ownBlock) (.slice (some ⟨go62, oo62, none⟩) x278000_2.length co53) y285) := ⟨by (with_reducible repeat (first | apply Kd.Q_alloc | apply Kd.Q_drewN | apply Kd.Q_drew)); exact HQ69.out⟩
                have n2_ : Aside0 (Kd.R (Kd.int .i64) 3 (w68.setCell ⟨go62, oo62, none⟩ (.int .i64 (rd x278000_2 x12_4))) w.heap.size (fun k_ => some k_ ≠ (.slice (some ad282) t279.length co64 : Value).ownBlock ∧ some k_ ≠ (.slice (some ⟨go62, oo62, none⟩) x278000_2.length co53 : Value).ownBlock) (.slice Ao54 x278001_2.length co54) x278001_2) := ⟨by (with_reducible repeat (first | apply rA | apply rN | apply rD)); exact rM (rF (p := ⟨go62, oo62, none⟩) (rM HO_278001.out (fun k_ hk => (⟨hk, fun e_ => hk.2 (by rw [e_]; rfl)⟩ : _ ∧ k_ ≠ go62))) (fun _ hk => hk.2) (.int .i64 (rd x278000_2 x12_4))) (fun _ hk => ⟨hk.1.1, hk.1.2⟩)⟩
                have n3_ : Aside0 ((w68.setCell ⟨go62, oo62, none⟩ (.int .i64 (rd x278000_2 x12_4))).heap[gb257]? = some (.cells #[.slice none 0 0, .slice none 0 0] 25 (0, 0))) := ⟨by (with_reducible repeat (first | refine kN ?_ _ | refine kD ?_ | refine kA ?_ _)); refine blk_far ?_ (by have h_ := Kd.Q_ne HO_278000.out BK257.out (by decide); intro e_; exact h_ (by rw [e_]; rfl)) _; (with_reducible repeat (first | refine kN ?_ _ | refine kD ?_ | refine kA ?_ _)); exact BK257.out⟩
                have n4_ : Aside0 ((w68.setCell ⟨go62, oo62, none⟩ (.int .i64 (rd x278000_2 x12_4))).heap[gb277]? = some (.cells #[.slice (some ⟨go62, oo62, none⟩) x278000_2.length co53, .slice Ao54 x278001_2.length co54] 25 (0, 0))) := ⟨by (with_reducible repeat (first | refine kN ?_ _ | refine kD ?_ | refine kA ?_ _)); refine blk_far ?_ (by have h_ := Kd.Q_ne HO_278000.out BK277.out (by decide); intro e_; exact h_ (by rw [e_]; rfl)) _; (with_reducible repeat (first | refine kN ?_ _ | refine kD ?_ | refine kA ?_ _)); exact BK277.out⟩
                have n5_ : Aside0 (IsS61 w0 (w68.setCell ⟨go62, oo62, none⟩ (.int .i64 (rd x278000_2 x12_4))) g s0_0 t276) := ⟨by repeat (first | (with_reducible first | exact HI0.out | apply IsS61.alloc | apply IsS61.drewN | apply IsS61.drew | apply IsS61.set_1 | refine IsS61.far ?_ HN0_go62.out _ | refine IsS61.far ?_ NB0_257.out _ | refine IsS61.far ?_ NB0_277.out _) | exact HI0.out)⟩
                have n6_ : Aside0 (KeepBut w (w68.setCell ⟨go62, oo62, none⟩ (.int .i64 (rd x278000_2 x12_4))) g none) := ⟨by repeat (first | (with_reducible first | exact HK.out | apply KeepBut.set_ | apply keep_drewN | apply keep_drew | apply keep_alloc | refine keep_far ?_ GB62.out _ | refine keep_far ?_ GW257.out _ | refine keep_far ?_ GW277.out _) | exact HK.out)⟩
                have n7_ : Aside0 (Below w0.heap.size w0 (w68.setCell ⟨go62, oo62, none⟩ (.int .i64 (rd x278000_2 x12_4)))) := ⟨by repeat (first | (with_reducible first | exact HB.out | apply bA | apply bN | apply bD | refine bS ?_ (Nat.le_trans HL.out GB62.out) | refine bS ?_ (IsS61.ge HI0.out) | refine bS ?_ GE257.out | refine bS ?_ GE277.out) | exact HB.out)⟩
                (try clear HO_11); (try clear HO_278000); (try clear HO_278001); (try clear BK257); (try clear BK277); (try clear HI0); (try clear HK); (try clear HB)
                generalize (w68.setCell ⟨go62, oo62, none⟩ (.int .i64 (rd x278000_2 x12_4))) = w70 at n0_ n1_ n2_ n3_ n4_ n5_ n6_ n7_ ⊢
                have HO_11 := n0_; have HO_278000 := n1_; have HO_278001 := n2_; have BK257 := n3_; have BK277 := n4_; have HI0 := n5_; have HK := n6_; have HB := n7_; clear n0_ n1_ n2_ n3_ n4_ n5_ n6_ n7_
                have hcz71_0 : w70.cell? ⟨gb277, 0, none⟩ = some (.slice (some ⟨go62, oo62, none⟩) x278000_2.length co53) := (kC BK277.out 0).trans rfl
                have hcz71_1 : w70.cell? ⟨gb277, 1, none⟩ = some (.slice Ao54 x278001_2.length co54) := (kC BK277.out 1).trans rfl
                have hfz71_0 := kF BK277.out 0; have hfz71_1 := kF BK277.out 1
                have p63 : 0 ≤ (x12_4 : Int) := oD (by assumption)
                have q63 : (x12_4 : Int) < ((x278000_2.length : Int) : Int) := oD (by assumption)
                obtain ⟨hx63_0, hf63_0⟩ := Kd.Q_cell 0 HO_278000.out (x12_4 : Int) p63 q63
                replace p63 := eq_true p63; replace q63 := eq_true q63
                obtain ⟨hy72_, hz72_⟩ := Kd.Q_cell 0 HO_278000.out (x12_4 : Int) (oD (by assumption)) (oD (by assumption))
                have HP72 := Kd.Q_putg HO_278000.out (x12_4 : Int) (oD (by assumption)) (by have h_ : (x12_4 : Int) < ((x278000_2.length : Int) : Int) := oD (by assumption); first | exact h_ | (have e_ := (Kd.Q_reads' HO_278000.out).1; omega) | simpa using h_) (rd x278000_2 0)
                try go_wp2_with (first | ((with_reducible refine gS (t := 3) (p := 95) rfl ?_); refine store_event (t := 3) (p := 95) (v := ?vo_w73) (w1 := (w70.setCell ⟨go62, oo62 + (x12_4 : Int).toNat, none⟩ (.int .i64 (rd x278000_2 0)))) ?hg ?ho ?hn ?hr ?_; (case ho => rfl); (case hg => rfl); (case hn => rfl); (case hr => first | (go_simp; done) | (go_simp; rfl)); intro w73 hw; have hg : w70.grownBy w73 (some go62) := (by rw [hw]; exact HP72.2); have hp_ : Kd.Q (Kd.int .i64) 3 w73 w.heap.size (fun k_ => some k_ ≠ (.slice (some ad282) t279.length co64 : Value).ownBlock ∧ some k_ ≠ (.slice Ao54 x278001_2.length co54 : Value).ownBlock) (.slice (some ⟨go62, oo62, none⟩) x278000_2.length co53) y286 := (by rw [hw, Ny286.out]; exact HP72.1); clear HP72; replace HO_11 := A0_ (Kd.R_after (v := (.slice (some ⟨go62, oo62, none⟩) x278000_2.length co53)) (v1 := (.slice (some ⟨go62, oo62, none⟩) x278000_2.length co53)) (ok := (fun k_ => some k_ ≠ (.slice Ao54 x278001_2.length co54 : Value).ownBlock)) (zmR HO_11 (fun _ hk => ⟨hk.2, hk.1⟩)) hg (.inl rfl)); replace HO_278001 := A0_ (Kd.R_after (v := (.slice (some ⟨go62, oo62, none⟩) x278000_2.length co53)) (v1 := (.slice (some ⟨go62, oo62, none⟩) x278000_2.length co53)) (ok := (fun k_ => some k_ ≠ (.slice (some ad282) t279.length co64 : Value).ownBlock)) (zR_ HO_278001) hg (.inl rfl)); replace BK257 := A0_ (blk_grown (g := gb257) (o := .cells #[.slice none 0 0, .slice none 0 0] 25 (0, 0)) (zK_ BK257) hg (Kd.Q_ne HO_278000.out BK257.out (by decide))); replace BK277 := A0_ (blk_grown (g := gb277) (o := .cells #[.slice (some ⟨go62, oo62, none⟩) x278000_2.length co53, .slice Ao54 x278001_2.length co54] 25 (0, 0)) (zK_ BK277) hg (Kd.Q_ne HO_278000.out BK277.out (by decide))); replace HI0 := A0_ (IsS61.grown (by repeat (first | (with_reducible first | exact HI0.out | apply IsS61.alloc | apply IsS61.drewN | apply IsS61.drew | apply IsS61.set_1 | refine IsS61.far ?_ NB0_257.out _ | refine IsS61.far ?_ NB0_277.out _) | exact HI0.out)) hg (IsS61.own_neQ HI0.out HO_278000.out (by decide))); replace HB := A0_ ((by rw [hw]; exact bS (HB.out) (Nat.le_trans HL.out GB62.out) : Below w0.heap.size w0 w73)); replace HK := A0_ (KeepBut.trans (by repeat (first | (with_reducible first | exact HK.out | apply KeepBut.set_ | apply keep_drewN | apply keep_drew | apply keep_alloc | refine keep_far ?_ GW257.out _ | refine keep_far ?_ GW277.out _) | exact HK.out)) (KeepBut.of_grown hg g) (Kd.Q_base2 HO_278000.out)); replace HO_278000 := A0_ (hp_); clear hg hw hp_))
                go_roundg k4
                case measure => have := HK1.out; have := HK2.out; have := HJ38.out; have := HK4.out; omega
                case rel => exact ⟨(wrap64 (x10_2 + 1)), (y286), (x278001_2), (.slice (some ⟨go62, oo62, none⟩) x278000_2.length co53), (.slice Ao54 x278001_2.length co54), zt, H', ⟨by have := HK1.out; have := HK2.out; have := HJ38.out; have := HK4.out; omega⟩, ⟨by (with_reducible repeat (first | apply Kd.Q_alloc | apply Kd.Q_drewN | apply Kd.Q_drew)); exact Kd.Q_mono HO_278000.out (fun _ hk => hk.2)⟩, ⟨zmR HO_278001 (fun _ hk => hk.2)⟩, ⟨zK_ BK257⟩, ⟨zK_ BK277⟩, ⟨by repeat (first | (with_reducible first | exact HI0.out | apply IsS61.alloc | apply IsS61.drewN | apply IsS61.drew | apply IsS61.set_1 | refine IsS61.far ?_ NB0_257.out _ | refine IsS61.far ?_ NB0_277.out _) | exact HI0.out)⟩, ⟨by repeat (first | (with_reducible first | exact HK.out | apply KeepBut.set_ | apply keep_drewN | apply keep_drew | apply keep_alloc | refine keep_far ?_ GW257.out _ | refine keep_far ?_ GW277.out _) | exact HK.out)⟩, ⟨by repeat (first | (with_reducible first | exact HB.out | apply bA | apply bN | apply bD | refine bS ?_ (IsS61.ge HI0.out) | refine bS ?_ GE257.out | refine bS ?_ GE277.out) | exact HB.out)⟩⟩
               rw [if_neg c61] at H
               exact absurd H (by simp)
              rw [if_neg c60] at H
              exact absurd H (by simp)
             rw [if_neg c57] at H
             exact absurd H (by simp)
            rw [if_neg c56] at H
            exact absurd H (by simp)
         replace c48 := Bool.eq_false_iff.mpr c48; subst c48
         have H1 : ((spec_l6Rd_pick.f kj38 s0_0 t276 50).bind fun bt287 => (if bt287.1 = 0 then (if 0 < (x278001_2.length : Int) then (some (x278000_2, (x278001_2.set (0 : Int).toNat 0), bt287.2)) else (none)) else (if bt287.1 = 1 then (if 1 ≤ (x278000_2.length : Int) then (some ((x278000_2.drop (1 : Int).toNat), x278001_2, bt287.2)) else (none)) else (if bt287.1 = 2 then (if 0 < (x278000_2.length : Int) then (some ((x278000_2.set (0 : Int).toNat ji5), x278001_2, bt287.2)) else (none)) else (some (x278000_2, x278001_2, bt287.2)))))) = some (r1, r2, r3) := by rw [if_neg (show ¬ (false = true) by decide)] at H; exact H
         clear H; have H := H1; clear H1; obtain ⟨⟨t287, t288⟩, A74, H⟩ := zbind H; dsimp only at H
         by_cases c75 : t287 = 0
         ·rw [if_pos c75] at H
          have c75b0 : (t287 == 0) = true := beq_iff_eq.mpr c75
          have c75b1 : (t287 != 0) = false := bne_eq_false_iff_eq.mpr c75
          clear c75
          by_cases c76 : 0 < (x278001_2.length : Int)
          ·rw [if_pos c76] at H
           have c76b0 : decide (0 < (x278001_2.length : Int)) = true := dT c76
           have c76b1 : decide (0 < x278001_2.length) = true := dT (by omega)
           clear c76
           obtain ⟨y289, hy289⟩ : ∃ y_ : List Int, y_ = (x278001_2.set (0 : Int).toNat 0) := ⟨_, rfl⟩
           replace H : (some (x278000_2, y289, t288)) = some (r1, r2, r3) := by first | (rw [hy289]; with_reducible exact H) | (have H2_ := (Option.bind_some _ _).symm.trans H; rw [hy289]; with_reducible exact H2_) | (have H2_ := (Option.bind_some _ _).symm.trans H; with_reducible exact H2_) | with_reducible exact H | (rw [hy289]; exact H) | exact H
           have Ny289 := A0_ hy289; clear hy289; simp only [Option.some.injEq, Prod.mk.injEq] at H; obtain ⟨rfl, rfl, rfl⟩ := H
           go_wp2_with (first | ((with_reducible refine gC (f := 22) rfl ?_); refine goesL_ (some 97) rfl rfl Try.func22 (by kernel_rfl) rfl #[.pointer (some ⟨g, 0, none⟩), .int .i64 50] rfl (by (try simp only [List.map_toArray, List.map_cons, List.map_nil]); first | done | rfl) ?_; (with_reducible refine (spec_l6Rd_pick.calls kj38 g s0_0 t276 50 t287 t288 w0 _ ?side1 ?side2 A74.out).mono ?_); (case side1 => repeat (first | (with_reducible first | exact HI0.out | apply IsS61.alloc | apply IsS61.drewN | apply IsS61.drew | apply IsS61.set_1 | refine IsS61.far ?_ NB0_257.out _ | refine IsS61.far ?_ NB0_277.out _) | exact HI0.out)); (case side2 => repeat (first | (with_reducible first | exact HB.out | apply bA | apply bN | apply bD | refine bS ?_ (IsS61.ge HI0.out) | refine bS ?_ GE257.out | refine bS ?_ GE277.out) | exact HB.out)); rintro e w78 ⟨rfl, hi, hb, hk⟩; refine ⟨_, rfl, ?_⟩; replace HO_278000 := A0_ (Kd.Q_mono (Kd.Q_keep (IsS61.apartQ (show IsS61 w0 _ g s0_0 t276 from by repeat (first | (with_reducible first | exact HI0.out | apply IsS61.alloc | apply IsS61.drewN | apply IsS61.drew | apply IsS61.set_1 | refine IsS61.far ?_ NB0_257.out _ | refine IsS61.far ?_ NB0_277.out _) | exact HI0.out)) (by (with_reducible repeat (first | apply Kd.Q_alloc | apply Kd.Q_drewN | apply Kd.Q_drew)); exact HO_278000.out) (by decide)) hk (fun _ h => h.2)) (fun _ h => h.1)); replace HO_278001 := A0_ (rM (Kd.R_keep (IsS61.apart (show IsS61 w0 _ g s0_0 t276 from by repeat (first | (with_reducible first | exact HI0.out | apply IsS61.alloc | apply IsS61.drewN | apply IsS61.drew | apply IsS61.set_1 | refine IsS61.far ?_ NB0_257.out _ | refine IsS61.far ?_ NB0_277.out _) | exact HI0.out)) (zR_ HO_278001) (by decide)) hk (fun _ h => h.2)) (fun _ h => h.1)); replace BK257 := A0_ (KeepBut.blk hk (g' := gb257) (o := .cells #[.slice none 0 0, .slice none 0 0] 25 (0, 0)) (zK_ BK257) NB257_0.out (by simp)); replace BK277 := A0_ (KeepBut.blk hk (g' := gb277) (o := .cells #[u278000, u278001] 25 (0, 0)) (zK_ BK277) NB277_0.out (by simp)); replace HK := A0_ (KeepBut.trans (by repeat (first | (with_reducible first | exact HK.out | apply KeepBut.set_ | apply keep_drewN | apply keep_drew | apply keep_alloc | refine keep_far ?_ GW257.out _ | refine keep_far ?_ GW277.out _) | exact HK.out)) hk (.inl rfl)); replace HB := A0_ (hb); replace HI0 := A0_ (hi); (try clear hb); have hnb79 := NB277_257.out; have hnc79 := NB257_277.out; have hnb80 := NB277_0.out; have hnc80 := NB0_277.out; have hcz81_0 : w78.cell? ⟨gb277, 0, none⟩ = some (u278000) := (kC BK277.out 0).trans rfl; have hcz81_1 : w78.cell? ⟨gb277, 1, none⟩ = some (u278001) := (kC BK277.out 1).trans rfl; have hfz81_0 := kF BK277.out 0; have hfz81_1 := kF BK277.out 1; have p77 : 0 ≤ (0 : Int) := (by omega); have q77 : (0 : Int) < ((x278001_2.length : Int) : Int) := oD (by assumption); have qi77 : (0 < x278001_2.length) = True := eq_true (by omega); obtain ⟨go77, co77, eo77, gb77, gl77, cl77, HG77⟩ := Kd.R_form HO_278001.out (by omega); (first | cases eo77 | (injection eo77 with ea_ en_ ec_; (first | subst ea_ | (injection ea_ with ea_; subst ea_)); subst ec_; clear en_)); have GB77 := A0_ gb77; have GG77 := A0_ HG77; clear gb77 gl77 HG77; obtain ⟨hx77_0, hf77_0⟩ := Kd.R_celln 0 HO_278001.out (0 : Int) p77 q77; (try rw [show ((0 : Int)).toNat = 0 from rfl] at hx77_0); (try simp only [Nat.reduceMul, Nat.zero_mul, Nat.zero_add, Nat.add_zero, Nat.reduceAdd] at hx77_0); (try rw [show ((0 : Int)).toNat = 0 from rfl] at hf77_0); (try simp only [Nat.reduceMul, Nat.zero_mul, Nat.zero_add, Nat.add_zero, Nat.reduceAdd] at hf77_0); replace p77 := eq_true p77; replace q77 := eq_true q77; obtain ⟨hy82_, hz82_⟩ := Kd.R_celln 0 HO_278001.out (0 : Int) (by omega) (oD (by assumption)); (try simp only [Int.reduceToNat, Int.toNat_zero, Int.toNat_ofNat, Nat.reduceMul, Nat.zero_mul, Nat.zero_add, Nat.add_zero] at hy82_ hz82_); (try rw [show ((0 : Int)).toNat = 0 from rfl] at hy82_); (try rw [show ((0 : Int)).toNat = 0 from rfl] at hz82_); have HP82 := Kd.R_putg HO_278001.out (0 : Int) 0) | ((with_reducible refine gS (t := 3) (p := 102) rfl ?_); refine store_event (t := 3) (p := 102) (v := ?vo_w83) (w1 := (w78.setCell ⟨go77, (0 : Int).toNat, none⟩ (.int .i64 0))) ?hg ?ho ?hn ?hr ?_; (case ho => rfl); (case hg => rfl); (case hn => rfl); (case hr => first | (go_simp; done) | (go_simp; rfl)); intro w83 hw; have hg : w78.grownBy w83 (some go77) := (by rw [hw]; exact HP82.2); have hp_ : Kd.R (Kd.int .i64) 3 w83 w.heap.size (fun k_ => some k_ ≠ (u278000 : Value).ownBlock) (.slice (some ⟨go77, 0, none⟩) x278001_2.length co77) y289 := (by rw [hw, Ny289.out]; exact HP82.1); clear HP82; replace HO_278000 := A0_ (Kd.Q_after (v := (.slice (some ⟨go77, 0, none⟩) x278001_2.length co77)) (v1 := (.slice (some ⟨go77, 0, none⟩) x278001_2.length co77)) (ok := (fun _ => True)) (by (with_reducible repeat (first | apply Kd.Q_alloc | apply Kd.Q_drewN | apply Kd.Q_drew)); exact Kd.Q_mono HO_278000.out (fun _ hk => ⟨trivial, hk⟩)) hg (.inl rfl)); replace BK257 := A0_ (blk_grown (g := gb257) (o := .cells #[.slice none 0 0, .slice none 0 0] 25 (0, 0)) (zK_ BK257) hg (Kd.R_ne HO_278001.out BK257.out (by decide))); replace BK277 := A0_ (blk_grown (g := gb277) (o := .cells #[u278000, .slice (some ⟨go77, 0, none⟩) x278001_2.length co77] 25 (0, 0)) (zK_ BK277) hg (Kd.R_ne HO_278001.out BK277.out (by decide))); replace HI0 := A0_ (IsS61.grown (by repeat (first | (with_reducible first | exact HI0.out | apply IsS61.alloc | apply IsS61.drewN | apply IsS61.drew | apply IsS61.set_1 | refine IsS61.far ?_ NB0_257.out _ | refine IsS61.far ?_ NB0_277.out _) | exact HI0.out)) hg (IsS61.own_ne HI0.out HO_278001.out (by decide))); replace HB := A0_ ((by rw [hw]; exact bS (HB.out) (Nat.le_trans HL.out GB77.out) : Below w0.heap.size w0 w83)); replace HK := A0_ (KeepBut.trans (by repeat (first | (with_reducible first | exact HK.out | apply KeepBut.set_ | apply keep_drewN | apply keep_drew | apply keep_alloc | refine keep_far ?_ GW257.out _ | refine keep_far ?_ GW277.out _) | exact HK.out)) (KeepBut.of_grown hg g) (Kd.R_base2 HO_278001.out)); replace HO_278001 := A0_ (hp_); clear hg hw hp_; have hcz84_0 : w83.cell? ⟨gb277, 0, none⟩ = some (u278000) := (kC BK277.out 0).trans rfl; have hcz84_1 : w83.cell? ⟨gb277, 1, none⟩ = some (.slice (some ⟨go77, 0, none⟩) x278001_2.length co77) := (kC BK277.out 1).trans rfl; have hfz84_0 := kF BK277.out 0; have hfz84_1 := kF BK277.out 1; obtain ⟨Ao85, co85, eo85, _⟩ := Kd.Q_slice HO_278000.out; subst eo85; have hnb86 := NB257_0.out; have hnc86 := NB0_257.out; have hcz87_0 : w83.cell? ⟨gb257, 0, none⟩ = some (.slice none 0 0) := (kC BK257.out 0).trans rfl; have hcz87_1 : w83.cell? ⟨gb257, 1, none⟩ = some (.slice none 0 0) := (kC BK257.out 1).trans rfl; have hfz87_0 := kF BK257.out 0; have hfz87_1 := kF BK257.out 1))
           refine bodyPost_ret (results_cell_row rfl _ _ gb257 25 #[.slice Ao85 x278000_2.length co85, .slice (some ⟨go77, 0, none⟩) x278001_2.length co77] (0, 0) _ rfl (by (with_reducible repeat (first | refine kN ?_ _ | refine kD ?_ | refine kA ?_ _)); refine blk_put (cs := #[.slice Ao85 x278000_2.length co85, .slice none 0 0]) ?_ 1 _ rfl; (with_reducible repeat (first | refine kN ?_ _ | refine kD ?_ | refine kA ?_ _)); refine blk_put (cs := #[.slice none 0 0, .slice none 0 0]) ?_ 0 _ rfl; (with_reducible repeat (first | refine kN ?_ _ | refine kD ?_ | refine kA ?_ _)); exact BK257.out) Try.underlying25 rfl (by kernel_rfl)) rfl ?_
           exact ⟨_, _, by first | rfl | (simp [errW_none, errW_some] <;> rfl) | (simp only [← hji5]; first | rfl | (simp [errW_none, errW_some] <;> rfl)) | (simp [*, errW_none, errW_some] <;> rfl), by (with_reducible repeat (first | apply Kd.Q_alloc | apply Kd.Q_drewN | apply Kd.Q_drew)); exact Kd.Q_mono (Kd.Q_far (p := ⟨gb257, 1, none⟩) (Kd.Q_far (p := ⟨gb257, 0, none⟩) (Kd.Q_types HO_278000.out BK257.out (by decide)) (fun _ hk => hk.2) (.slice Ao85 x278000_2.length co85)) (fun _ hk => hk.2) (.slice (some ⟨go77, 0, none⟩) x278001_2.length co77)) (fun _ hk => hk.1.2), zF HO_278001 BK257 (.slice Ao85 x278000_2.length co85) (.slice (some ⟨go77, 0, none⟩) x278001_2.length co77) 0 1, by repeat (first | (with_reducible first | exact HI0.out | apply IsS61.alloc | apply IsS61.drewN | apply IsS61.drew | apply IsS61.set_1 | refine IsS61.far ?_ NB0_257.out _ | refine IsS61.far ?_ NB0_277.out _) | exact HI0.out), by repeat (first | (with_reducible first | exact HB.out | apply bA | apply bN | apply bD | refine bS ?_ (IsS61.ge HI0.out) | refine bS ?_ GE257.out | refine bS ?_ GE277.out) | exact HB.out), by repeat (first | (with_reducible first | exact HK.out | apply KeepBut.set_ | apply keep_drewN | apply keep_drew | apply keep_alloc | refine keep_far ?_ GW257.out _ | refine keep_far ?_ GW277.out _) | exact HK.out)⟩
          rw [if_neg c76] at H
          exact absurd H (by simp)
         rw [if_neg c75] at H
         have c75b0 : (t287 == 0) = false := beq_eq_false_iff_ne.mpr c75
         have c75b1 : (t287 != 0) = true := bne_iff_ne.mpr c75
         by_cases c88 : t287 = 1
         ·rw [if_pos c88] at H
          have c88b0 : (t287 == 1) = true := beq_iff_eq.mpr c88
          have c88b1 : (t287 != 1) = false := bne_eq_false_iff_eq.mpr c88
          clear c88
          by_cases c89 : 1 ≤ (x278000_2.length : Int)
          ·rw [if_pos c89] at H
           have c89b0 := eq_true c89
           have c89b1 : decide (1 ≤ (x278000_2.length : Int)) = true := dT c89
           clear c89
           obtain ⟨y290, hy290⟩ : ∃ y_ : List Int, y_ = (x278000_2.drop (1 : Int).toNat) := ⟨_, rfl⟩
           replace H : (some (y290, x278001_2, t288)) = some (r1, r2, r3) := by first | (rw [hy290]; with_reducible exact H) | (have H2_ := (Option.bind_some _ _).symm.trans H; rw [hy290]; with_reducible exact H2_) | (have H2_ := (Option.bind_some _ _).symm.trans H; with_reducible exact H2_) | with_reducible exact H | (rw [hy290]; exact H) | exact H
           have Ny290 := A0_ hy290; clear hy290; simp only [Option.some.injEq, Prod.mk.injEq] at H; obtain ⟨rfl, rfl, rfl⟩ := H
           go_wp2_with (first | ((with_reducible refine gC (f := 22) rfl ?_); refine goesL_ (some 97) rfl rfl Try.func22 (by kernel_rfl) rfl #[.pointer (some ⟨g, 0, none⟩), .int .i64 50] rfl (by (try simp only [List.map_toArray, List.map_cons, List.map_nil]); first | done | rfl) ?_; (with_reducible refine (spec_l6Rd_pick.calls kj38 g s0_0 t276 50 t287 t288 w0 _ ?side1 ?side2 A74.out).mono ?_); (case side1 => repeat (first | (with_reducible first | exact HI0.out | apply IsS61.alloc | apply IsS61.drewN | apply IsS61.drew | apply IsS61.set_1 | refine IsS61.far ?_ NB0_257.out _ | refine IsS61.far ?_ NB0_277.out _) | exact HI0.out)); (case side2 => repeat (first | (with_reducible first | exact HB.out | apply bA | apply bN | apply bD | refine bS ?_ (IsS61.ge HI0.out) | refine bS ?_ GE257.out | refine bS ?_ GE277.out) | exact HB.out)); rintro e w90 ⟨rfl, hi, hb, hk⟩; refine ⟨_, rfl, ?_⟩; replace HO_278000 := A0_ (Kd.Q_mono (Kd.Q_keep (IsS61.apartQ (show IsS61 w0 _ g s0_0 t276 from by repeat (first | (with_reducible first | exact HI0.out | apply IsS61.alloc | apply IsS61.drewN | apply IsS61.drew | apply IsS61.set_1 | refine IsS61.far ?_ NB0_257.out _ | refine IsS61.far ?_ NB0_277.out _) | exact HI0.out)) (by (with_reducible repeat (first | apply Kd.Q_alloc | apply Kd.Q_drewN | apply Kd.Q_drew)); exact HO_278000.out) (by decide)) hk (fun _ h => h.2)) (fun _ h => h.1)); replace HO_278001 := A0_ (rM (Kd.R_keep (IsS61.apart (show IsS61 w0 _ g s0_0 t276 from by repeat (first | (with_reducible first | exact HI0.out | apply IsS61.alloc | apply IsS61.drewN | apply IsS61.drew | apply IsS61.set_1 | refine IsS61.far ?_ NB0_257.out _ | refine IsS61.far ?_ NB0_277.out _) | exact HI0.out)) (zR_ HO_278001) (by decide)) hk (fun _ h => h.2)) (fun _ h => h.1)); replace BK257 := A0_ (KeepBut.blk hk (g' := gb257) (o := .cells #[.slice none 0 0, .slice none 0 0] 25 (0, 0)) (zK_ BK257) NB257_0.out (by simp)); replace BK277 := A0_ (KeepBut.blk hk (g' := gb277) (o := .cells #[u278000, u278001] 25 (0, 0)) (zK_ BK277) NB277_0.out (by simp)); replace HK := A0_ (KeepBut.trans (by repeat (first | (with_reducible first | exact HK.out | apply KeepBut.set_ | apply keep_drewN | apply keep_drew | apply keep_alloc | refine keep_far ?_ GW257.out _ | refine keep_far ?_ GW277.out _) | exact HK.out)) hk (.inl rfl)); replace HB := A0_ (hb); replace HI0 := A0_ (hi); (try clear hb); have hnb91 := NB277_257.out; have hnc91 := NB257_277.out; have hnb92 := NB277_0.out; have hnc92 := NB0_277.out; have hcz93_0 : w90.cell? ⟨gb277, 0, none⟩ = some (u278000) := (kC BK277.out 0).trans rfl; have hcz93_1 : w90.cell? ⟨gb277, 1, none⟩ = some (u278001) := (kC BK277.out 1).trans rfl; have hfz93_0 := kF BK277.out 0; have hfz93_1 := kF BK277.out 1; obtain ⟨Ao94, co94, eo94, _⟩ := Kd.Q_slice HO_278000.out; subst eo94; have q95 : (1 : Int) ≤ ((x278000_2.length : Int) : Int) := oD (by assumption); obtain ⟨i095, hi095, _, hsz95, _⟩ := info_parts info3; have hcut95 := cut_from (P := Try.prog) 23 3 .i64 Try.underlying23 hi095 1 hsz95 Ao94 x278000_2.length co94 1 (by omega) q95; have hr95 := Kd.Q_drop (k := (1 : Int).toNat) HO_278000.out (by omega); obtain ⟨A95, hA95⟩ : ∃ A1, A1 = (if co94 = (1 : Int).toNat then Ao94 else (Ao94 : Option Addr).map (·.add ((1 : Int).toNat * 1))) := ⟨_, rfl⟩; obtain ⟨c95, hc95⟩ : ∃ c1, c1 = co94 - (1 : Int).toNat := ⟨_, rfl⟩; have hy95 : y290.length = x278000_2.length - (1 : Int).toNat := (by rw [Ny290.out, List.length_drop]); rw [← Ny290.out] at hr95; rw [← hy95, ← hA95, ← hc95] at hcut95; replace hr95 : Kd.Q (Kd.int .i64) 3 w90 w.heap.size (fun k_ => some k_ ≠ (u278001 : Value).ownBlock) (.slice A95 y290.length c95) y290 := (by rw [hA95, hc95, hy95]; exact hr95); have HE95 : Aside0 ((Value.slice A95 y290.length c95).ownBlock = (.slice Ao94 x278000_2.length co94 : Value).ownBlock) := ⟨by rw [hA95]; split <;> (cases (Ao94 : Option Addr) <;> rfl)⟩; clear hy95 hi095 hsz95 HO_278000 hA95 hc95; have HO292 := A0_ hr95; clear hr95; replace q95 := eq_true q95; have n_ := A0_ (rM (ok' := fun k_ => some k_ ≠ (.slice A95 y290.length c95 : Value).ownBlock) HO_278001.out (fun k_ hk => (by rw [HE95.out]; exact hk))); clear HO_278001; have HO_278001 := n_; clear n_; have hnb96 := NB257_0.out; have hnc96 := NB0_257.out; have hcz97_0 : w90.cell? ⟨gb257, 0, none⟩ = some (.slice none 0 0) := (kC BK257.out 0).trans rfl; have hcz97_1 : w90.cell? ⟨gb257, 1, none⟩ = some (.slice none 0 0) := (kC BK257.out 1).trans rfl; have hfz97_0 := kF BK257.out 0; have hfz97_1 := kF BK257.out 1; obtain ⟨Ao98, co98, eo98⟩ := rS HO_278001.out; subst eo98))
           refine bodyPost_ret (results_cell_row rfl _ _ gb257 25 #[.slice A95 y290.length c95, .slice Ao98 x278001_2.length co98] (0, 0) _ rfl (by (with_reducible repeat (first | refine kN ?_ _ | refine kD ?_ | refine kA ?_ _)); refine blk_put (cs := #[.slice A95 y290.length c95, .slice none 0 0]) ?_ 1 _ rfl; (with_reducible repeat (first | refine kN ?_ _ | refine kD ?_ | refine kA ?_ _)); refine blk_put (cs := #[.slice none 0 0, .slice none 0 0]) ?_ 0 _ rfl; (with_reducible repeat (first | refine kN ?_ _ | refine kD ?_ | refine kA ?_ _)); refine blk_far ?_ NB257_277.out _; (with_reducible repeat (first | refine kN ?_ _ | refine kD ?_ | refine kA ?_ _)); exact BK257.out) Try.underlying25 rfl (by kernel_rfl)) rfl ?_
           exact ⟨_, _, by first | rfl | (simp [errW_none, errW_some] <;> rfl) | (simp only [← hji5]; first | rfl | (simp [errW_none, errW_some] <;> rfl)) | (simp [*, errW_none, errW_some] <;> rfl), by (with_reducible repeat (first | apply Kd.Q_alloc | apply Kd.Q_drewN | apply Kd.Q_drew)); exact Kd.Q_mono (Kd.Q_far (p := ⟨gb257, 1, none⟩) (Kd.Q_far (p := ⟨gb257, 0, none⟩) (Kd.Q_far (p := ⟨gb277, 0, none⟩) (Kd.Q_types (Kd.Q_types HO292.out BK277.out (by decide)) BK257.out (by decide)) (fun _ hk => hk.1.2) (.slice A95 y290.length c95)) (fun _ hk => hk.2) (.slice A95 y290.length c95)) (fun _ hk => hk.2) (.slice Ao98 x278001_2.length co98)) (fun _ hk => hk.1.1), by (with_reducible repeat (first | apply rA | apply rN | apply rD)); exact rM (rF (p := ⟨gb257, 1, none⟩) (rF (p := ⟨gb257, 0, none⟩) (rF (p := ⟨gb277, 0, none⟩) (rY (rY HO_278001.out BK277.out (by decide)) BK257.out (by decide)) (fun _ hk => hk.1.2) (.slice A95 y290.length c95)) (fun _ hk => hk.2) (.slice A95 y290.length c95)) (fun _ hk => hk.2) (.slice Ao98 x278001_2.length co98)) (fun _ hk => hk.1.1), by repeat (first | (with_reducible first | exact HI0.out | apply IsS61.alloc | apply IsS61.drewN | apply IsS61.drew | apply IsS61.set_1 | refine IsS61.far ?_ NB0_257.out _ | refine IsS61.far ?_ NB0_277.out _) | exact HI0.out), by repeat (first | (with_reducible first | exact HB.out | apply bA | apply bN | apply bD | refine bS ?_ (IsS61.ge HI0.out) | refine bS ?_ GE257.out | refine bS ?_ GE277.out) | exact HB.out), by repeat (first | (with_reducible first | exact HK.out | apply KeepBut.set_ | apply keep_drewN | apply keep_drew | apply keep_alloc | refine keep_far ?_ GW257.out _ | refine keep_far ?_ GW277.out _) | exact HK.out)⟩
          rw [if_neg c89] at H
          exact absurd H (by simp)
         rw [if_neg c88] at H
         have c88b0 : (t287 == 1) = false := beq_eq_false_iff_ne.mpr c88
         have c88b1 : (t287 != 1) = true := bne_iff_ne.mpr c88
         by_cases c99 : t287 = 2
         ·rw [if_pos c99] at H
          have c99b0 : (t287 == 2) = true := beq_iff_eq.mpr c99
          have c99b1 : (t287 != 2) = false := bne_eq_false_iff_eq.mpr c99
          clear c99
          by_cases c100 : 0 < (x278000_2.length : Int)
          ·rw [if_pos c100] at H
           have c100b0 : decide (0 < (x278000_2.length : Int)) = true := dT c100
           have c100b1 : decide (0 < x278000_2.length) = true := dT (by omega)
           clear c100
           obtain ⟨y293, hy293⟩ : ∃ y_ : List Int, y_ = (x278000_2.set (0 : Int).toNat ji5) := ⟨_, rfl⟩
           replace H : (some (y293, x278001_2, t288)) = some (r1, r2, r3) := by first | (rw [hy293]; with_reducible exact H) | (have H2_ := (Option.bind_some _ _).symm.trans H; rw [hy293]; with_reducible exact H2_) | (have H2_ := (Option.bind_some _ _).symm.trans H; with_reducible exact H2_) | with_reducible exact H | (rw [hy293]; exact H) | exact H
           have Ny293 := A0_ hy293; clear hy293; simp only [Option.some.injEq, Prod.mk.injEq] at H; obtain ⟨rfl, rfl, rfl⟩ := H
           go_wp2_with (first | ((with_reducible refine gC (f := 22) rfl ?_); refine goesL_ (some 97) rfl rfl Try.func22 (by kernel_rfl) rfl #[.pointer (some ⟨g, 0, none⟩), .int .i64 50] rfl (by (try simp only [List.map_toArray, List.map_cons, List.map_nil]); first | done | rfl) ?_; (with_reducible refine (spec_l6Rd_pick.calls kj38 g s0_0 t276 50 t287 t288 w0 _ ?side1 ?side2 A74.out).mono ?_); (case side1 => repeat (first | (with_reducible first | exact HI0.out | apply IsS61.alloc | apply IsS61.drewN | apply IsS61.drew | apply IsS61.set_1 | refine IsS61.far ?_ NB0_257.out _ | refine IsS61.far ?_ NB0_277.out _) | exact HI0.out)); (case side2 => repeat (first | (with_reducible first | exact HB.out | apply bA | apply bN | apply bD | refine bS ?_ (IsS61.ge HI0.out) | refine bS ?_ GE257.out | refine bS ?_ GE277.out) | exact HB.out)); rintro e w102 ⟨rfl, hi, hb, hk⟩; refine ⟨_, rfl, ?_⟩; replace HO_278000 := A0_ (Kd.Q_mono (Kd.Q_keep (IsS61.apartQ (show IsS61 w0 _ g s0_0 t276 from by repeat (first | (with_reducible first | exact HI0.out | apply IsS61.alloc | apply IsS61.drewN | apply IsS61.drew | apply IsS61.set_1 | refine IsS61.far ?_ NB0_257.out _ | refine IsS61.far ?_ NB0_277.out _) | exact HI0.out)) (by (with_reducible repeat (first | apply Kd.Q_alloc | apply Kd.Q_drewN | apply Kd.Q_drew)); exact HO_278000.out) (by decide)) hk (fun _ h => h.2)) (fun _ h => h.1)); replace HO_278001 := A0_ (rM (Kd.R_keep (IsS61.apart (show IsS61 w0 _ g s0_0 t276 from by repeat (first | (with_reducible first | exact HI0.out | apply IsS61.alloc | apply IsS61.drewN | apply IsS61.drew | apply IsS61.set_1 | refine IsS61.far ?_ NB0_257.out _ | refine IsS61.far ?_ NB0_277.out _) | exact HI0.out)) (zR_ HO_278001) (by decide)) hk (fun _ h => h.2)) (fun _ h => h.1)); replace BK257 := A0_ (KeepBut.blk hk (g' := gb257) (o := .cells #[.slice none 0 0, .slice none 0 0] 25 (0, 0)) (zK_ BK257) NB257_0.out (by simp)); replace BK277 := A0_ (KeepBut.blk hk (g' := gb277) (o := .cells #[u278000, u278001] 25 (0, 0)) (zK_ BK277) NB277_0.out (by simp)); replace HK := A0_ (KeepBut.trans (by repeat (first | (with_reducible first | exact HK.out | apply KeepBut.set_ | apply keep_drewN | apply keep_drew | apply keep_alloc | refine keep_far ?_ GW257.out _ | refine keep_far ?_ GW277.out _) | exact HK.out)) hk (.inl rfl)); replace HB := A0_ (hb); replace HI0 := A0_ (hi); (try clear hb); have hnb103 := NB277_257.out; have hnc103 := NB257_277.out; have hnb104 := NB277_0.out; have hnc104 := NB0_277.out; have hcz105_0 : w102.cell? ⟨gb277, 0, none⟩ = some (u278000) := (kC BK277.out 0).trans rfl; have hcz105_1 : w102.cell? ⟨gb277, 1, none⟩ = some (u278001) := (kC BK277.out 1).trans rfl; have hfz105_0 := kF BK277.out 0; have hfz105_1 := kF BK277.out 1; have p101 : 0 ≤ (0 : Int) := (by omega); have q101 : (0 : Int) < ((x278000_2.length : Int) : Int) := oD (by assumption); have qi101 : (0 < x278000_2.length) = True := eq_true (by omega); obtain ⟨go101, oo101, co101, eo101, gb101, gl101, cl101, HG101⟩ := Kd.Q_form HO_278000.out (by omega); (first | cases eo101 | (injection eo101 with ea_ en_ ec_; (first | subst ea_ | (injection ea_ with ea_; subst ea_)); subst ec_; clear en_)); have GB101 := A0_ gb101; have GG101 := A0_ HG101; clear gb101 gl101 HG101; obtain ⟨hx101_0, hf101_0⟩ := Kd.Q_cell 0 HO_278000.out (0 : Int) p101 q101; (try rw [show ((0 : Int)).toNat = 0 from rfl] at hx101_0); (try simp only [Nat.reduceMul, Nat.zero_mul, Nat.zero_add, Nat.add_zero, Nat.reduceAdd] at hx101_0); (try rw [show ((0 : Int)).toNat = 0 from rfl] at hf101_0); (try simp only [Nat.reduceMul, Nat.zero_mul, Nat.zero_add, Nat.add_zero, Nat.reduceAdd] at hf101_0); replace p101 := eq_true p101; replace q101 := eq_true q101; obtain ⟨hy106_, hz106_⟩ := Kd.Q_cell 0 HO_278000.out (0 : Int) (by omega) (oD (by assumption)); (try simp only [Int.reduceToNat, Int.toNat_zero, Int.toNat_ofNat, Nat.reduceMul, Nat.zero_mul, Nat.zero_add, Nat.add_zero] at hy106_ hz106_); (try rw [show ((0 : Int)).toNat = 0 from rfl] at hy106_); (try rw [show ((0 : Int)).toNat = 0 from rfl] at hz106_); have HP106 := Kd.Q_putg HO_278000.out (0 : Int) (by omega) (by have h_ : (0 : Int) < ((x278000_2.length : Int) : Int) := oD (by assumption); first | exact h_ | (have e_ := (Kd.Q_reads' HO_278000.out).1; omega) | simpa using h_) ji5) | ((with_reducible refine gS (t := 3) (p := 114) rfl ?_); refine store_event (t := 3) (p := 114) (v := ?vo_w107) (w1 := (w102.setCell ⟨go101, oo101, none⟩ (.int .i64 ji5))) ?hg ?ho ?hn ?hr ?_; (case ho => rfl); (case hg => rfl); (case hn => rfl); (case hr => first | (go_simp; done) | (go_simp; rfl)); intro w107 hw; have hg : w102.grownBy w107 (some go101) := (by rw [hw]; exact HP106.2); have hp_ : Kd.Q (Kd.int .i64) 3 w107 w.heap.size (fun k_ => some k_ ≠ (u278001 : Value).ownBlock) (.slice (some ⟨go101, oo101, none⟩) x278000_2.length co101) y293 := (by rw [hw, Ny293.out]; exact HP106.1); clear HP106; replace HO_278001 := A0_ (Kd.R_after (v := (.slice (some ⟨go101, oo101, none⟩) x278000_2.length co101)) (v1 := (.slice (some ⟨go101, oo101, none⟩) x278000_2.length co101)) (ok := (fun _ => True)) (zmR HO_278001 (fun _ hk => ⟨trivial, hk⟩)) hg (.inl rfl)); replace BK257 := A0_ (blk_grown (g := gb257) (o := .cells #[.slice none 0 0, .slice none 0 0] 25 (0, 0)) (zK_ BK257) hg (Kd.Q_ne HO_278000.out BK257.out (by decide))); replace BK277 := A0_ (blk_grown (g := gb277) (o := .cells #[.slice (some ⟨go101, oo101, none⟩) x278000_2.length co101, u278001] 25 (0, 0)) (zK_ BK277) hg (Kd.Q_ne HO_278000.out BK277.out (by decide))); replace HI0 := A0_ (IsS61.grown (by repeat (first | (with_reducible first | exact HI0.out | apply IsS61.alloc | apply IsS61.drewN | apply IsS61.drew | apply IsS61.set_1 | refine IsS61.far ?_ NB0_257.out _ | refine IsS61.far ?_ NB0_277.out _) | exact HI0.out)) hg (IsS61.own_neQ HI0.out HO_278000.out (by decide))); replace HB := A0_ ((by rw [hw]; exact bS (HB.out) (Nat.le_trans HL.out GB101.out) : Below w0.heap.size w0 w107)); replace HK := A0_ (KeepBut.trans (by repeat (first | (with_reducible first | exact HK.out | apply KeepBut.set_ | apply keep_drewN | apply keep_drew | apply keep_alloc | refine keep_far ?_ GW257.out _ | refine keep_far ?_ GW277.out _) | exact HK.out)) (KeepBut.of_grown hg g) (Kd.Q_base2 HO_278000.out)); replace HO_278000 := A0_ (hp_); clear hg hw hp_; have hcz108_0 : w107.cell? ⟨gb277, 0, none⟩ = some (.slice (some ⟨go101, oo101, none⟩) x278000_2.length co101) := (kC BK277.out 0).trans rfl; have hcz108_1 : w107.cell? ⟨gb277, 1, none⟩ = some (u278001) := (kC BK277.out 1).trans rfl; have hfz108_0 := kF BK277.out 0; have hfz108_1 := kF BK277.out 1; have hnb109 := NB257_0.out; have hnc109 := NB0_257.out; have hcz110_0 : w107.cell? ⟨gb257, 0, none⟩ = some (.slice none 0 0) := (kC BK257.out 0).trans rfl; have hcz110_1 : w107.cell? ⟨gb257, 1, none⟩ = some (.slice none 0 0) := (kC BK257.out 1).trans rfl; have hfz110_0 := kF BK257.out 0; have hfz110_1 := kF BK257.out 1; obtain ⟨Ao111, co111, eo111⟩ := rS HO_278001.out; subst eo111))
           refine bodyPost_ret (results_cell_row rfl _ _ gb257 25 #[.slice (some ⟨go101, oo101, none⟩) x278000_2.length co101, .slice Ao111 x278001_2.length co111] (0, 0) _ rfl (by (with_reducible repeat (first | refine kN ?_ _ | refine kD ?_ | refine kA ?_ _)); refine blk_put (cs := #[.slice (some ⟨go101, oo101, none⟩) x278000_2.length co101, .slice none 0 0]) ?_ 1 _ rfl; (with_reducible repeat (first | refine kN ?_ _ | refine kD ?_ | refine kA ?_ _)); refine blk_put (cs := #[.slice none 0 0, .slice none 0 0]) ?_ 0 _ rfl; (with_reducible repeat (first | refine kN ?_ _ | refine kD ?_ | refine kA ?_ _)); exact BK257.out) Try.underlying25 rfl (by kernel_rfl)) rfl ?_
           exact ⟨_, _, by first | rfl | (simp [errW_none, errW_some] <;> rfl) | (simp only [← hji5]; first | rfl | (simp [errW_none, errW_some] <;> rfl)) | (simp [*, errW_none, errW_some] <;> rfl), by (with_reducible repeat (first | apply Kd.Q_alloc | apply Kd.Q_drewN | apply Kd.Q_drew)); exact Kd.Q_mono (Kd.Q_far (p := ⟨gb257, 1, none⟩) (Kd.Q_far (p := ⟨gb257, 0, none⟩) (Kd.Q_types HO_278000.out BK257.out (by decide)) (fun _ hk => hk.2) (.slice (some ⟨go101, oo101, none⟩) x278000_2.length co101)) (fun _ hk => hk.2) (.slice Ao111 x278001_2.length co111)) (fun _ hk => hk.1), by (with_reducible repeat (first | apply rA | apply rN | apply rD)); exact rM (rF (p := ⟨gb257, 1, none⟩) (rF (p := ⟨gb257, 0, none⟩) (rY HO_278001.out BK257.out (by decide)) (fun _ hk => hk.2) (.slice (some ⟨go101, oo101, none⟩) x278000_2.length co101)) (fun _ hk => hk.2) (.slice Ao111 x278001_2.length co111)) (fun _ hk => hk.1.2), by repeat (first | (with_reducible first | exact HI0.out | apply IsS61.alloc | apply IsS61.drewN | apply IsS61.drew | apply IsS61.set_1 | refine IsS61.far ?_ NB0_257.out _ | refine IsS61.far ?_ NB0_277.out _) | exact HI0.out), by repeat (first | (with_reducible first | exact HB.out | apply bA | apply bN | apply bD | refine bS ?_ (IsS61.ge HI0.out) | refine bS ?_ GE257.out | refine bS ?_ GE277.out) | exact HB.out), by repeat (first | (with_reducible first | exact HK.out | apply KeepBut.set_ | apply keep_drewN | apply keep_drew | apply keep_alloc | refine keep_far ?_ GW257.out _ | refine keep_far ?_ GW277.out _) | exact HK.out)⟩
          rw [if_neg c100] at H
          exact absurd H (by simp)
         rw [if_neg c99] at H
         have c99b0 : (t287 == 2) = false := beq_eq_false_iff_ne.mpr c99
         have c99b1 : (t287 != 2) = true := bne_iff_ne.mpr c99
         simp only [Option.some.injEq, Prod.mk.injEq] at H; obtain ⟨rfl, rfl, rfl⟩ := H
         go_wp2_with (first | ((with_reducible refine gC (f := 22) rfl ?_); refine goesL_ (some 97) rfl rfl Try.func22 (by kernel_rfl) rfl #[.pointer (some ⟨g, 0, none⟩), .int .i64 50] rfl (by (try simp only [List.map_toArray, List.map_cons, List.map_nil]); first | done | rfl) ?_; (with_reducible refine (spec_l6Rd_pick.calls kj38 g s0_0 t276 50 t287 t288 w0 _ ?side1 ?side2 A74.out).mono ?_); (case side1 => repeat (first | (with_reducible first | exact HI0.out | apply IsS61.alloc | apply IsS61.drewN | apply IsS61.drew | apply IsS61.set_1 | refine IsS61.far ?_ NB0_257.out _ | refine IsS61.far ?_ NB0_277.out _) | exact HI0.out)); (case side2 => repeat (first | (with_reducible first | exact HB.out | apply bA | apply bN | apply bD | refine bS ?_ (IsS61.ge HI0.out) | refine bS ?_ GE257.out | refine bS ?_ GE277.out) | exact HB.out)); rintro e w112 ⟨rfl, hi, hb, hk⟩; refine ⟨_, rfl, ?_⟩; replace HO_278000 := A0_ (Kd.Q_mono (Kd.Q_keep (IsS61.apartQ (show IsS61 w0 _ g s0_0 t276 from by repeat (first | (with_reducible first | exact HI0.out | apply IsS61.alloc | apply IsS61.drewN | apply IsS61.drew | apply IsS61.set_1 | refine IsS61.far ?_ NB0_257.out _ | refine IsS61.far ?_ NB0_277.out _) | exact HI0.out)) (by (with_reducible repeat (first | apply Kd.Q_alloc | apply Kd.Q_drewN | apply Kd.Q_drew)); exact HO_278000.out) (by decide)) hk (fun _ h => h.2)) (fun _ h => h.1)); replace HO_278001 := A0_ (rM (Kd.R_keep (IsS61.apart (show IsS61 w0 _ g s0_0 t276 from by repeat (first | (with_reducible first | exact HI0.out | apply IsS61.alloc | apply IsS61.drewN | apply IsS61.drew | apply IsS61.set_1 | refine IsS61.far ?_ NB0_257.out _ | refine IsS61.far ?_ NB0_277.out _) | exact HI0.out)) (zR_ HO_278001) (by decide)) hk (fun _ h => h.2)) (fun _ h => h.1)); replace BK257 := A0_ (KeepBut.blk hk (g' := gb257) (o := .cells #[.slice none 0 0, .slice none 0 0] 25 (0, 0)) (zK_ BK257) NB257_0.out (by simp)); replace BK277 := A0_ (KeepBut.blk hk (g' := gb277) (o := .cells #[u278000, u278001] 25 (0, 0)) (zK_ BK277) NB277_0.out (by simp)); replace HK := A0_ (KeepBut.trans (by repeat (first | (with_reducible first | exact HK.out | apply KeepBut.set_ | apply keep_drewN | apply keep_drew | apply keep_alloc | refine keep_far ?_ GW257.out _ | refine keep_far ?_ GW277.out _) | exact HK.out)) hk (.inl rfl)); replace HB := A0_ (hb); replace HI0 := A0_ (hi); (try clear hb); have hnb113 := NB277_257.out; have hnc113 := NB257_277.out; have hnb114 := NB277_0.out; have hnc114 := NB0_277.out; have hcz115_0 : w112.cell? ⟨gb277, 0, none⟩ = some (u278000) := (kC BK277.out 0).trans rfl; have hcz115_1 : w112.cell? ⟨gb277, 1, none⟩ = some (u278001) := (kC BK277.out 1).trans rfl; have hfz115_0 := kF BK277.out 0; have hfz115_1 := kF BK277.out 1; obtain ⟨Ao116, co116, eo116, _⟩ := Kd.Q_slice HO_278000.out; subst eo116; have hnb117 := NB257_0.out; have hnc117 := NB0_257.out; have hcz118_0 : w112.cell? ⟨gb257, 0, none⟩ = some (.slice none 0 0) := (kC BK257.out 0).trans rfl; have hcz118_1 : w112.cell? ⟨gb257, 1, none⟩ = some (.slice none 0 0) := (kC BK257.out 1).trans rfl; have hfz118_0 := kF BK257.out 0; have hfz118_1 := kF BK257.out 1; obtain ⟨Ao119, co119, eo119⟩ := rS HO_278001.out; subst eo119))
         refine bodyPost_ret (results_cell_row rfl _ _ gb257 25 #[.slice Ao116 x278000_2.length co116, .slice Ao119 x278001_2.length co119] (0, 0) _ rfl (by (with_reducible repeat (first | refine kN ?_ _ | refine kD ?_ | refine kA ?_ _)); refine blk_put (cs := #[.slice Ao116 x278000_2.length co116, .slice none 0 0]) ?_ 1 _ rfl; (with_reducible repeat (first | refine kN ?_ _ | refine kD ?_ | refine kA ?_ _)); refine blk_put (cs := #[.slice none 0 0, .slice none 0 0]) ?_ 0 _ rfl; (with_reducible repeat (first | refine kN ?_ _ | refine kD ?_ | refine kA ?_ _)); exact BK257.out) Try.underlying25 rfl (by kernel_rfl)) rfl ?_
         exact ⟨_, _, by first | rfl | (simp [errW_none, errW_some] <;> rfl) | (simp only [← hji5]; first | rfl | (simp [errW_none, errW_some] <;> rfl)) | (simp [*, errW_none, errW_some] <;> rfl), by (with_reducible repeat (first | apply Kd.Q_alloc | apply Kd.Q_drewN | apply Kd.Q_drew)); exact Kd.Q_mono (Kd.Q_far (p := ⟨gb257, 1, none⟩) (Kd.Q_far (p := ⟨gb257, 0, none⟩) (Kd.Q_types HO_278000.out BK257.out (by decide)) (fun _ hk => hk.2) (.slice Ao116 x278000_2.length co116)) (fun _ hk => hk.2) (.slice Ao119 x278001_2.length co119)) (fun _ hk => hk.1), zF HO_278001 BK257 (.slice Ao116 x278000_2.length co116) (.slice Ao119 x278001_2.length co119) 0 1, by repeat (first | (with_reducible first | exact HI0.out | apply IsS61.alloc | apply IsS61.drewN | apply IsS61.drew | apply IsS61.set_1 | refine IsS61.far ?_ NB0_257.out _ | refine IsS61.far ?_ NB0_277.out _) | exact HI0.out), by repeat (first | (with_reducible first | exact HB.out | apply bA | apply bN | apply bD | refine bS ?_ (IsS61.ge HI0.out) | refine bS ?_ GE257.out | refine bS ?_ GE277.out) | exact HB.out), by repeat (first | (with_reducible first | exact HK.out | apply KeepBut.set_ | apply keep_drewN | apply keep_drew | apply keep_alloc | refine keep_far ?_ GW257.out _ | refine keep_far ?_ GW277.out _) | exact HK.out)⟩
  rw [if_neg c7] at H
  exact absurd H (by simp)
 rw [if_neg c6] at H
 exact absurd H (by simp)

end Go.Proofs.Ytlckmmnpcljhoaa.PFnVoltage
