-- Made by a program of this session (wip/tools) out of the loaded program; not trusted: Lean checks it.
import Derived.Test.YtjebcgbmlbemcaaGreatDoorXE
import Derived.Test.YtjebcgbmlbemcaaGreatDoorXC
import Derived.Test.YtjebcgbmlbemcaaGreatDoorPFnExecuteValuex0
import Derived.Test.YtjebcgbmlbemcaaGreatDoorPFnExecuteValuex1
import Derived.Test.YtjebcgbmlbemcaaGreatDoorPFnExecuteValuex2
import Derived.Test.YtjebcgbmlbemcaaGreatDoorPFnExecuteValuex3
-- packed
namespace Go.Proofs.YtjebcgbmlbemcaaGreatDoor.PFnExecuteValue
open Go.RowKit Go.Proofs.YtjebcgbmlbemcaaGreatDoorW.PrintWords Go.Proofs.YtjebcgbmlbemcaaGreatDoorW.PrintLast Go.Proofs.YtjebcgbmlbemcaaGreatDoorW.PrintMore
attribute [local go_sem] max2_int min2_int max_two min_two max_three min_three max_four min_four   -- for this text's walks alone
set_option linter.unusedVariables false
set_option linter.unusedSimpArgs false

/-! ### impl_power: function 41 -/
def impl_power.l0 : Nat → Int → Int → Int → Int → Option (Int)
  | 0, _, _, _, _ => none
  | k + 1, x0, x5, x6, x7 => if x7 < x6 then (impl_power.l0 k x0 (wrap64 (x5 * x0)) x6 (wrap64 (x7 + 1))) else (some x5)
def impl_power.f (k : Nat) (a0 : Int) (a1 : Int) : Option (Int) := impl_power.l0 k a0 1 a1 0
set_option maxHeartbeats 8000000 in
set_option maxRecDepth 100000 in
theorem impl_power.calls (k : Nat) (a0 : Int) (a1 : Int) (r : Int) (w : World) (h : impl_power.f k a0 a1 = some r) :
    Calls Tryz.prog 41 #[.int .i64 a0, .int .i64 a1] w fun e w' => e = .returned (.int .i64 r) ∧ Drawn0 w w' := by
 have H : (impl_power.l0 k a0 1 a1 0) = some r := h
 clear h; have H' := A0_ H; clear H
 go_enter Tryz.func41, Tryz.ntmps41
 go_wp2
 go_loopg [5, 7] k (fun kq v5 v7 w' => ∃ (x5_1 : Int) (x7_1 : Int), v5 = .int .i64 x5_1 ∧ v7 = .int .i64 x7_1 ∧ Aside0 (impl_power.l0 kq a0 x5_1 a1 x7_1 = some r) ∧ Aside0 (kq ≤ k) ∧ Drawn0 w w')
 case atStart => exact ⟨(1), (0), zt, zt, H', ⟨Nat.le_refl _⟩, by repeat (first | exact Drawn0.refl _ | apply Drawn0.step)⟩
 case round =>
  clear H'; (try clear p2); obtain ⟨x5_1, x7_1, rfl, rfl, HA, HK1, ⟨m1, rfl⟩⟩ := hrel
  cases gk with
  | zero => exact absurd HA.out (by simp [impl_power.l0])
  | succ k1 =>
   have H := HA.out; clear HA; simp only [impl_power.l0] at H
   by_cases c3 : x7_1 < a1
   ·rw [if_pos c3] at H
    have c3b0 := dT c3; clear c3; have H' := A0_ H; clear H
    go_wp2
    go_roundg k1
    case measure => have := HK1.out; omega
    case rel => exact ⟨(wrap64 (x5_1 * a0)), (wrap64 (x7_1 + 1)), zt, zt, H', ⟨by have := HK1.out; omega⟩, by repeat (first | exact Drawn0.refl _ | apply Drawn0.step)⟩
   rw [if_neg c3] at H; have c3b0 := dF c3; clear c3; obtain rfl := sI H
   go_wp2
   go_ret
   exact ⟨by first | rfl | (simp; done) | (simp [*]; done), by repeat (first | exact Drawn0.refl _ | apply Drawn0.step)⟩

/-! ### impl_RibbonValue_1: function 39 -/
def impl_RibbonValue_1.f (k : Nat) (t f : List Int) (x y z s : Int) (l : List Int) : Option Int := (impl_ribbon.f k t f l).bind fun c => if 4 < c.length then (impl_power.f k x (wrap64 (rd c 0 - 1))).bind fun p => (impl_power.f k y (rd c 3)).bind fun q => (impl_power.f k z (rd c 4)).bind fun u => some (wrap64 (s + wrap64 (wrap64 (p * q) * u))) else none
theorem impl_RibbonValue_1.bdN {b : Nat} {a w : World} (h : Below b a w) (m : Nat) : Below b a (w.drewN m) := ⟨h.os, h.tape, h.output, h.size, h.block⟩
def impl_RibbonValue_1.T1 : Bool × List (List Nat × List Nat) := (true, [([], []), ([], []), ([], []), ([2], [2]), ([3], [3]), ([4], [4]), ([1, 5], [1, 5]), ([], []), ([], []), ([8], [8]), ([9], [9]), ([7, 10, 6], [7, 10]), ([6, 11], [6, 11]), ([], []), ([], []), ([14], [14]), ([15], [15]), ([13, 16, 11], [13, 16]), ([12, 17], [12, 17]), ([0, 18], [0, 18]), ([19, 17, 0, 1, 2, 3, 4, 5, 6, 7, 8, 9, 10, 11, 12, 13, 14, 15, 16, 17, 18, 19], [19])])
def impl_RibbonValue_1.B1 : List Nat := [0, 0, 0, 4, 12, 28, 62, 0, 0, 256, 768, 2046, 4094, 0, 0, 16384, 49152, 126974, 262142, 524287, 1048575]
theorem impl_RibbonValue_1.tab1 : rtab .any (opsOf Tryz.f39 1) = impl_RibbonValue_1.T1 := by kernel_rfl
theorem impl_RibbonValue_1.bits1 : waitsOk impl_RibbonValue_1.T1.2 impl_RibbonValue_1.B1 = true := by kernel_rfl
set_option maxHeartbeats 8000000 in
set_option maxRecDepth 100000 in
theorem impl_RibbonValue_1.calls (k : Nat) (A : Option Addr) (c : Nat) (t : List Int) (A2 : Option Addr) (c2 : Nat) (f : List Int) (A3 : Option Addr) (c3 : Nat) (l : List Int) (gm gs gx gy gz : Nat) (s x y z r : Int) (w : World)
    (ht : Kd.C (Kd.int .i64) w A t.length t) (hc : t.length ≤ c) (hf : Kd.C (Kd.int .i64) w A2 f.length f) (hc2 : f.length ≤ c2) (hl : Kd.C (Kd.int .i64) w A3 l.length l) (hc3 : l.length ≤ c3)
    (hbm : w.heap[gm]? = some (.cells #[.slice A t.length c, .slice A2 f.length c2] 25 (0, 0))) (hbs : w.heap[gs]? = some (.cells #[.int .i64 s] 3 (0, 0)))
    (hbx : w.heap[gx]? = some (.cells #[.int .i64 x] 3 (0, 0))) (hby : w.heap[gy]? = some (.cells #[.int .i64 y] 3 (0, 0))) (hbz : w.heap[gz]? = some (.cells #[.int .i64 z] 3 (0, 0)))
    (h : impl_RibbonValue_1.f k t f x y z s l = some r) :
    Calls Tryz.prog 39 #[.slice A3 l.length c3, .pointer (some ⟨gm, 0, none⟩), .pointer (some ⟨gs, 0, none⟩), .pointer (some ⟨gx, 0, none⟩), .pointer (some ⟨gy, 0, none⟩), .pointer (some ⟨gz, 0, none⟩)] w fun e w' => (∃ v, e = .returned v) ∧ w'.heap[gs]? = some (.cells #[.int .i64 r] 3 (0, 0)) ∧ Kept w w' (fun k_ => k_ = gs) ∧ Below gs w w' := by
 have hu25 := Tryz.underlying25
 unfold impl_RibbonValue_1.f at h
 obtain ⟨o, h1, h⟩ := Option.bind_eq_some_iff.1 h
 split at h
 · rename_i hlen
   obtain ⟨p, h2, h⟩ := Option.bind_eq_some_iff.1 h; obtain ⟨q, h3, h⟩ := Option.bind_eq_some_iff.1 h; obtain ⟨u, h4, h⟩ := Option.bind_eq_some_iff.1 h; have hr := sI h; clear h
   have H1 := A0_ h1; have H2 := A0_ h2; have H3 := A0_ h3; have H4 := A0_ h4; have HLEN := A0_ hlen; have HRR := A0_ hr
   have HT := A0_ ht; have HC := A0_ hc; have HF := A0_ hf; have HC2 := A0_ hc2; have HL := A0_ hl; have HC3 := A0_ hc3
   have BKm := A0_ hbm; have BKs := A0_ hbs; have BKx := A0_ hbx; have BKy := A0_ hby; have BKz := A0_ hbz
   have HGS := A0_ (kL hbs)
   clear h1 h2 h3 h4 hlen hr ht hc hf hc2 hl hc3 hbm hbs hbx hby hbz
   have hcz0 : w.cell? ⟨gm, 0, none⟩ = some (.slice A t.length c) := (kC BKm.out 0).trans rfl
   have hcz1 : w.cell? ⟨gm, 1, none⟩ = some (.slice A2 f.length c2) := (kC BKm.out 1).trans rfl
   go_enter Tryz.func39, Tryz.ntmps39
   go_wp2_with (first | (go_at_call 40; refine (impl_ribbon.calls k (fun k_ => k_ < w.heap.size) A c t A2 c2 f A3 c3 l o _ ?s1 ?s2 ?s3 ?s4 ?s5 H1.out).mono ?_; (case s1 => exact Kd.V_mk HC.out (Kd.C_F (Kd.heap_int .i64) HT.out)); (case s2 => exact HF.out); (case s3 => exact HC2.out); (case s4 => exact HL.out); (case s5 => exact HC3.out); rintro e w1 ⟨v, rfl, ho, hb⟩; have HB1 := A0_ hb; have HO := A0_ ho; clear hb ho; obtain ⟨g, cc, rfl, hgb, hgl, hgh⟩ := Kd.R_form HO.out (by have := HLEN.out; omega); clear hgb hgl hgh hcz0 hcz1))
   have z0 : w1.cell? ⟨g, 0, none⟩ = some (.int .i64 (rd o 0)) := (Kd.R_celln 0 HO.out 0 (by decide) (by have := HLEN.out; omega)).1
   have z3 : w1.cell? ⟨g, 3, none⟩ = some (.int .i64 (rd o 3)) := (Kd.R_celln 0 HO.out 3 (by decide) (by have := HLEN.out; omega)).1
   have z4 : w1.cell? ⟨g, 4, none⟩ = some (.int .i64 (rd o 4)) := (Kd.R_celln 0 HO.out 4 (by decide) (by have := HLEN.out; omega)).1
   have l0 := eq_true (show (0 : Int) < (o.length : Int) by have := HLEN.out; omega)
   have l3 := eq_true (show (3 : Int) < (o.length : Int) by have := HLEN.out; omega)
   have l4 := eq_true (show (4 : Int) < (o.length : Int) by have := HLEN.out; omega)
   have m0 := eq_true (show 0 < o.length by have := HLEN.out; omega)
   have m3 := eq_true (show 3 < o.length by have := HLEN.out; omega)
   have m4 := eq_true (show 4 < o.length by have := HLEN.out; omega)
   have d0 := dT (show (0 : Int) < (o.length : Int) by have := HLEN.out; omega)
   have d3 := dT (show (3 : Int) < (o.length : Int) by have := HLEN.out; omega)
   have d4 := dT (show (4 : Int) < (o.length : Int) by have := HLEN.out; omega)
   have BS1 := A0_ (kB BKs.out HB1.out)
   have us : w1.cell? ⟨gs, 0, none⟩ = some (.int .i64 s) := (kC BS1.out 0).trans rfl
   have ux : w1.cell? ⟨gx, 0, none⟩ = some (.int .i64 x) := (kC (kB BKx.out HB1.out) 0).trans rfl
   have uy : w1.cell? ⟨gy, 0, none⟩ = some (.int .i64 y) := (kC (kB BKy.out HB1.out) 0).trans rfl
   have uz : w1.cell? ⟨gz, 0, none⟩ = some (.int .i64 z) := (kC (kB BKz.out HB1.out) 0).trans rfl
   have fs := kF BS1.out 0
   go_wp2_with fail
   refine start_ (n := 21) (S := fun w' => w'.cell? ⟨gs, 0, none⟩ = some (.int .i64 s) ∧ w'.cell? ⟨gx, 0, none⟩ = some (.int .i64 x) ∧ w'.cell? ⟨gy, 0, none⟩ = some (.int .i64 y) ∧ w'.cell? ⟨gz, 0, none⟩ = some (.int .i64 z) ∧ w'.cell? ⟨g, 0, none⟩ = some (.int .i64 (rd o 0)) ∧ w'.cell? ⟨g, 3, none⟩ = some (.int .i64 (rd o 3)) ∧ w'.cell? ⟨g, 4, none⟩ = some (.int .i64 (rd o 4))) (ds := [20]) #[false,false,false,false,false,false,false,false,false,false,false,false,false,false,false,false,false,false,false,false,false] (by kernel_rfl) rfl rfl ⟨us, ux, uy, uz, z0, z3, z4⟩ (fun hHeld => ?_); refine with_tabW impl_RibbonValue_1.tab1 impl_RibbonValue_1.bits1 (fun HT_ HW_ => ?_)
   refine zT 0 (some 11) #[true,false,false,false,false,false,false,false,false,false,false,false,false,false,false,false,false,false,false,false,false] hHeld ?_
   refine zT 1 (some 12) #[true,true,false,false,false,false,false,false,false,false,false,false,false,false,false,false,false,false,false,false,false] hHeld ?_
   refine zP 2 (some 13) #[true,true,true,false,false,false,false,false,false,false,false,false,false,false,false,false,false,false,false,false,false] ?_
   refine zP 3 (some 14) #[true,true,true,true,false,false,false,false,false,false,false,false,false,false,false,false,false,false,false,false,false] ?_
   refine zT 4 (some 15) #[true,true,true,true,true,false,false,false,false,false,false,false,false,false,false,false,false,false,false,false,false] hHeld ?_
   refine zP 5 (some 16) #[true,true,true,true,true,true,false,false,false,false,false,false,false,false,false,false,false,false,false,false,false] ?_
   refine zT 7 (some 18) #[true,true,true,true,true,true,false,true,false,false,false,false,false,false,false,false,false,false,false,false,false] hHeld ?_
   refine zP 8 (some 19) #[true,true,true,true,true,true,false,true,true,false,false,false,false,false,false,false,false,false,false,false,false] ?_
   refine zP 9 (some 20) #[true,true,true,true,true,true,false,true,true,true,false,false,false,false,false,false,false,false,false,false,false] ?_
   refine zT 10 (some 21) #[true,true,true,true,true,true,false,true,true,true,true,false,false,false,false,false,false,false,false,false,false] hHeld ?_
   refine zT 13 (some 24) #[true,true,true,true,true,true,false,true,true,true,true,false,false,true,false,false,false,false,false,false,false] hHeld ?_
   refine zP 14 (some 25) #[true,true,true,true,true,true,false,true,true,true,true,false,false,true,true,false,false,false,false,false,false] ?_
   refine zP 15 (some 26) #[true,true,true,true,true,true,false,true,true,true,true,false,false,true,true,true,false,false,false,false,false] ?_
   refine zT 16 (some 27) #[true,true,true,true,true,true,false,true,true,true,true,false,false,true,true,true,true,false,false,false,false] hHeld ?_
   refine one_ (i := 6) (N := some 17) #[true,true,true,true,true,true,true,true,true,true,true,false,false,true,true,true,true,false,false,false,false] rfl rfl (one_of HT_.out (by kernel_rfl)) (by decide) (fun K hK => ?_)
   refine goes_ Tryz.func41 (by kernel_rfl) rfl #[.int .i64 x, .int .i64 (wrap64 (rd o 0 - 1))] (by rfl) rfl rfl (by (try simp only [List.map_toArray, List.map_cons, List.map_nil]); first | done | rfl | (simp only [i64_w]; rfl)) ?_
   with_reducible refine (impl_power.calls k x (wrap64 (rd o 0 - 1)) p _ H2.out).mono ?_
   rintro e w2 ⟨rfl, ⟨n6, rfl⟩⟩
   refine ⟨_, rfl, ?_⟩
   refine hK.out _ _ hHeld (fun hHeld => ?_)
   clear hK K
   refine zN (some 17) ?_
   refine one_ (i := 11) (N := some 22) #[true,true,true,true,true,true,true,true,true,true,true,true,false,true,true,true,true,false,false,false,false] rfl rfl (one_of HT_.out (by kernel_rfl)) (by decide) (fun K hK => ?_)
   refine goes_ Tryz.func41 (by kernel_rfl) rfl #[.int .i64 y, .int .i64 (rd o 3)] (by rfl) rfl rfl (by (try simp only [List.map_toArray, List.map_cons, List.map_nil]); first | done | rfl | (simp only [i64_w]; rfl)) ?_
   with_reducible refine (impl_power.calls k y (rd o 3) q _ H3.out).mono ?_
   rintro e w2 ⟨rfl, ⟨n11, rfl⟩⟩
   refine ⟨_, rfl, ?_⟩
   refine hK.out _ _ hHeld (fun hHeld => ?_)
   clear hK K
   refine zN (some 22) ?_
   refine zP 12 (some 23) #[true,true,true,true,true,true,true,true,true,true,true,true,true,true,true,true,true,false,false,false,false] ?_
   refine one_ (i := 17) (N := some 28) #[true,true,true,true,true,true,true,true,true,true,true,true,true,true,true,true,true,true,false,false,false] rfl rfl (one_of HT_.out (by kernel_rfl)) (by decide) (fun K hK => ?_)
   refine goes_ Tryz.func41 (by kernel_rfl) rfl #[.int .i64 z, .int .i64 (rd o 4)] (by rfl) rfl rfl (by (try simp only [List.map_toArray, List.map_cons, List.map_nil]); first | done | rfl | (simp only [i64_w]; rfl)) ?_
   with_reducible refine (impl_power.calls k z (rd o 4) u _ H4.out).mono ?_
   rintro e w2 ⟨rfl, ⟨n17, rfl⟩⟩
   refine ⟨_, rfl, ?_⟩
   refine hK.out _ _ hHeld (fun hHeld => ?_)
   clear hK K
   refine zN (some 28) ?_
   refine zP 18 (some 29) #[true,true,true,true,true,true,true,true,true,true,true,true,true,true,true,true,true,true,true,false,false] ?_
   refine zP 19 (some 30) #[true,true,true,true,true,true,true,true,true,true,true,true,true,true,true,true,true,true,true,true,false] ?_
   refine last_ (i := 20) (N := none) #[true,true,true,true,true,true,true,true,true,true,true,true,true,true,true,true,true,true,true,true,true] rfl rfl (one_of HT_.out (by kernel_rfl)) (by decide) (fun K hK => ?_)
   have hs_ := hHeld.1
   have hf_ : (((w1.drew.drewN n6).drewN n11).drewN n17).frozen? ⟨gs, 0, none⟩ = false := fs
   refine skip_ (w1 := ?_) (by rfl) rfl ?_ ?_
   rotate_left
   · go_simp
     rfl
   refine hK.out _ _ ?_
   clear hK K
   refine done_ (done_of HT_.out (by kernel_rfl)) ?_
   try go_wp2
   go_end0
   rw [HRR.out]
   exact ⟨⟨_, rfl⟩, blk_put (kN BS1.out _) 0 _ rfl, ((Kept.of_below HB1.out (fun k_ => k_ = gs)).drewN _).setCell (.inl rfl) _, (impl_RibbonValue_1.bdN (HB1.out.mono (Nat.le_of_lt HGS.out)) _).setCell (Nat.le_refl _) _⟩
 cases h


/-! ### impl_choicesOf: function 38 -/
mutual
def impl_choicesOf.l0 : Nat → Int → Int → Int → Int → Int → Int → List Int → List Int → Option (Int)
  | 0, _, _, _, _, _, _, _, _ => none
  | k + 1, px, py, pz, x1, x11, x12, x205000, x205001 => if x12 < x11 then (impl_choicesOf.l1 k px py pz x1 x12 (([] : List Int)) x11 x12 (wrap64 ((x205001.length : Int) / 2)) 0 x205000 x205001) else (some x1)
def impl_choicesOf.l1 : Nat → Int → Int → Int → Int → Int → List Int → Int → Int → Int → Int → List Int → List Int → Option (Int)
  | 0, _, _, _, _, _, _, _, _, _, _, _, _ => none
  | k + 1, px, py, pz, x1, x4, x5, x11, x12, x19, x20, x205000, x205001 => if x20 < x19 then (if 0 ≤ x20 then (if (Go.bits .and .i64 (shr .i64 x4 x20) 1) = 1 then (if x5.length < 17592186044416 then (impl_choicesOf.l1 k px py pz x1 x4 (x5 ++ [x20]) x11 x12 x19 (wrap64 (x20 + 1)) x205000 x205001) else (none)) else (impl_choicesOf.l1 k px py pz x1 x4 x5 x11 x12 x19 (wrap64 (x20 + 1)) x205000 x205001)) else (none)) else ((impl_RibbonValue_1.f k x205000 x205001 px py pz x1 x5).bind fun t211 => (impl_choicesOf.l0 k px py pz t211 x11 (wrap64 (x12 + 1)) x205000 x205001))
end
def impl_choicesOf.f (k : Nat) (l0_0 : List Int) (l0_1 : List Int) (px py pz : Int) (a1 : Int) : Option (Int) := if 0 ≤ (wrap64 ((l0_1.length : Int) / 2)) then (impl_choicesOf.l0 k px py pz a1 (shl .i64 1 (wrap64 ((l0_1.length : Int) / 2))) 0 l0_0 l0_1) else (none)
set_option maxHeartbeats 8000000 in
set_option maxRecDepth 100000 in
theorem impl_choicesOf.calls (k : Nat) (A0_0 : Option Addr) (c0_0 : Nat) (l0_0 : List Int) (A0_1 : Option Addr) (c0_1 : Nat) (l0_1 : List Int) (px py pz : Int) (a1 : Int) (r : Int) (gm gs gx gy gz : Nat) (w w1 : World) (hr0_0 : Kd.C (Kd.int .i64) w A0_0 l0_0.length l0_0) (hc0_0 : l0_0.length ≤ c0_0) (hr0_1 : Kd.C (Kd.int .i64) w A0_1 l0_1.length l0_1) (hc0_1 : l0_1.length ≤ c0_1) (hb0 : Below w.heap.size w w1) (hgs : w.heap.size ≤ gs) (hbm : w.heap[gm]? = some (.cells #[.slice A0_0 l0_0.length c0_0, .slice A0_1 l0_1.length c0_1] 25 (0, 0))) (hbx : w.heap[gx]? = some (.cells #[.int .i64 px] 3 (0, 0))) (hby : w.heap[gy]? = some (.cells #[.int .i64 py] 3 (0, 0))) (hbz : w.heap[gz]? = some (.cells #[.int .i64 pz] 3 (0, 0))) (hbs : w1.heap[gs]? = some (.cells #[.int .i64 a1] 3 (0, 0))) (h : impl_choicesOf.f k l0_0 l0_1 px py pz a1 = some r) :
    Calls Tryz.prog 38 #[.agg #[.slice A0_0 l0_0.length c0_0, .slice A0_1 l0_1.length c0_1], .func (.func 39) #[] #[.pointer (some ⟨gm, 0, none⟩), .pointer (some ⟨gs, 0, none⟩), .pointer (some ⟨gx, 0, none⟩), .pointer (some ⟨gy, 0, none⟩), .pointer (some ⟨gz, 0, none⟩)]] w1 fun e w' => (∃ v, e = .returned v) ∧ w'.heap[gs]? = some (.cells #[.int .i64 r] 3 (0, 0)) ∧ Below w.heap.size w w' := by
 have hu25 := Tryz.underlying25; have HR0_0 := A0_ hr0_0; have HC0_0 := A0_ hc0_0; clear hr0_0 hc0_0; have HR0_1 := A0_ hr0_1; have HC0_1 := A0_ hc0_1; clear hr0_1 hc0_1
 have HB := A0_ hb0; have HGS := A0_ hgs; have BKm := A0_ hbm; have BKx := A0_ hbx; have BKy := A0_ hby; have BKz := A0_ hbz; have BKs := A0_ hbs; clear hb0 hgs hbm hbx hby hbz hbs
 have H : (if 0 ≤ (wrap64 ((l0_1.length : Int) / 2)) then (impl_choicesOf.l0 k px py pz a1 (shl .i64 1 (wrap64 ((l0_1.length : Int) / 2))) 0 l0_0 l0_1) else (none)) = some r := h
 clear h
 obtain ⟨ji3, hji3⟩ : ∃ j_ : Int, (wrap64 ((l0_1.length : Int) / 2)) = j_ := ⟨_, rfl⟩
 replace H : (if 0 ≤ (ji3) then (impl_choicesOf.l0 k px py pz a1 (shl .i64 1 (ji3)) 0 l0_0 l0_1) else (none)) = some r := by first | (rw [hji3] at H; exact H) | (simp only [hji3] at H ⊢; exact H)
 have hji3w : (IntKind.i64.wrap ((l0_1.length : Int) / 2)) = ji3 := (i64_w _).trans hji3
 by_cases c4 : 0 ≤ (ji3)
 ·rw [if_pos c4] at H
  have c4b0 := eq_true c4; have c4b1 := dT c4; clear c4
  obtain ⟨ji5, hji5⟩ : ∃ j_ : Int, (shl .i64 1 (ji3)) = j_ := ⟨_, rfl⟩
  replace H : (impl_choicesOf.l0 k px py pz a1 ji5 0 l0_0 l0_1) = some r := by first | (rw [hji5] at H; exact H) | (simp only [hji5] at H ⊢; exact H)
  have hji5_ : (IntKind.i64.wrap (1 * 2 ^ min (ji3).toNat 64)) = ji5 := hji5
  have hji5z : (ji3) ≤ 64 → (IntKind.i64.wrap (1 * 2 ^ (ji3).toNat)) = ji5 := shl_small hji5
  have hji5u : (IntKind.i64.wrap (2 ^ min (ji3).toNat 64)) = ji5 := by have h_ := hji5_; rw [Int.one_mul] at h_; exact h_
  have hji5v : (ji3) ≤ 64 → (IntKind.i64.wrap (2 ^ (ji3).toNat)) = ji5 := fun hle_ => by have h_ := hji5z hle_; rw [Int.one_mul] at h_; exact h_
  have hji5y : (wrap64 (1 * 2 ^ min (ji3).toNat 64)) = ji5 := (i64_w _).symm.trans hji5_
  have hji5x : (ji3) ≤ 64 → (wrap64 (1 * 2 ^ (ji3).toNat)) = ji5 := fun h_ => (i64_w _).symm.trans (hji5z h_)
  have H' := A0_ H; clear H
  go_enter Tryz.func38, Tryz.ntmps38
  go_wp2_with (first | ((with_reducible refine gD (N := 2) rfl ?_); refine zX (N := 2) (cs := #[.slice A0_0 l0_0.length c0_0, .slice A0_1 l0_1.length c0_1]) (t := 25) ?_; intro gb204 hg w6 hbox hb; have BK204 := A0_ (hbox); have NS204 : Aside0 (gs ≠ gb204) := ⟨by rw [hg]; exact Nat.ne_of_lt (kL BKs.out)⟩; replace BKs := zK BKs hb; have GW204 := zG hg HB; have GE204 := zG hg HB; replace HB := zB HB hb; clear hb hbox hg; have hcz7_0 := zc0 BK204; have hcz7_1 := zc1 BK204; have hfz7_0 := kF BK204.out 0; have hfz7_1 := kF BK204.out 1))
  go_loopg [12] k (fun kq v12 w' => ∃ (x1_1 : Int) (x12_1 : Int), v12 = .int .i64 x12_1 ∧ Aside0 (impl_choicesOf.l0 kq px py pz x1_1 ji5 x12_1 l0_0 l0_1 = some r) ∧ Aside0 (kq ≤ k) ∧ Aside0 (w'.heap[gb204]? = some (.cells #[(.slice A0_0 l0_0.length c0_0), (.slice A0_1 l0_1.length c0_1)] 25 (0, 0))) ∧ Aside0 (w'.heap[gs]? = some (.cells #[.int .i64 x1_1] 3 (0, 0))) ∧ Aside0 (Below w.heap.size w w'))
  case atStart => exact ⟨(a1), (0), zt, H', ⟨Nat.le_refl _⟩, ⟨zK_ BK204⟩, ⟨zK_ BKs⟩, ⟨zB_ HB⟩⟩
  case round =>
   clear H' BKs; (try clear p2); (try clear c3); (try clear c4); (try clear c4b0); (try clear c4b1); (try clear p6); (try clear hcz7_0); (try clear hcz7_1); (try clear hfz7_0); (try clear hfz7_1); obtain ⟨x1_1, x12_1, rfl, HA, HK1, BK204, BKs, HB⟩ := hrel
   cases gk with
   | zero => exact absurd HA.out (by simp [impl_choicesOf.l0])
   | succ k1 =>
    have H := HA.out; clear HA; simp only [impl_choicesOf.l0] at H
    by_cases c8 : x12_1 < ji5
    ·rw [if_pos c8] at H
     have c8b0 := dT c8; clear c8
     obtain ⟨y205, hy205⟩ : ∃ y_ : List Int, y_ = (([] : List Int)) := ⟨_, rfl⟩
     replace H : (impl_choicesOf.l1 k1 px py pz x1_1 x12_1 y205 ji5 x12_1 (wrap64 ((l0_1.length : Int) / 2)) 0 l0_0 l0_1) = some r := zH hy205 H
     have Ny205 := A0_ hy205; clear hy205; have H' := A0_ H; clear H
     go_wp2_with (first | ((with_reducible refine gD (N := 15) rfl ?_); refine Kd.R_lit (Kd.int .i64) _ 3 ?hg (N := 15) ?hd (xs := ([] : List Int)) (inner := []) (ok := fun _ => True) (okp := fun _ => True) ?hr ?hp (fun _ hk => hk) trivial (Below.refl _ _) (Nat.le_refl _) (by simp) ?_; (case hd => rfl); (case hg => rfl); (case hr => first | (go_simp; done) | (go_simp; rfl)); (case hp => exact (Reps.none _ _)); intro v206 w9 ho10 hb hg_ hnew_; clear hg_ hnew_; (first | rw [← Ny205.out] at ho10 | (simp only [Int.reduceToNat] at ho10; rw [← Ny205.out] at ho10)); have HO207 := A0_ (rL (Kd.R_newB ho10 (g := gs) (o := .cells #[.int .i64 x1_1] 3 (0, 0)) (zK_ BKs)) (bZ (zB_ HB))); replace BKs := zK BKs hb; replace BK204 := zK BK204 hb; replace HB := zB HB hb; clear hb ho10; have hcz11_0 := zc0 BK204; have hcz11_1 := zc1 BK204; have hfz11_0 := kF BK204.out 0; have hfz11_1 := kF BK204.out 1))
     go_loopg [5, 20] k1 (fun kq v5 v20 w' => ∃ (x5_2 : List Int) (x20_2 : Int), v20 = .int .i64 x20_2 ∧ Aside0 (impl_choicesOf.l1 kq px py pz x1_1 x12_1 x5_2 ji5 x12_1 (wrap64 ((l0_1.length : Int) / 2)) x20_2 l0_0 l0_1 = some r) ∧ Aside0 (kq ≤ k1) ∧ Aside0 (Kd.R (Kd.int .i64) 3 w' w.heap.size (fun k_ => True ∧ k_ ≠ gs) v5 x5_2) ∧ Aside0 (w'.heap[gb204]? = some (.cells #[(.slice A0_0 l0_0.length c0_0), (.slice A0_1 l0_1.length c0_1)] 25 (0, 0))) ∧ Aside0 (w'.heap[gs]? = some (.cells #[.int .i64 x1_1] 3 (0, 0))) ∧ Aside0 (Below w.heap.size w w'))
     case atStart => exact ⟨(y205), (0), zt, H', ⟨Nat.le_refl _⟩, ⟨zR_ HO207⟩, ⟨zK_ BK204⟩, ⟨zK_ BKs⟩, ⟨zB_ HB⟩⟩
     case round =>
      clear H' BKs; (try clear p2); (try clear c3); (try clear c4); (try clear c4b0); (try clear c4b1); (try clear p6); (try clear c8); (try clear c8b0); (try clear hcz11_0); (try clear hcz11_1); (try clear hcz7_0); (try clear hcz7_1); (try clear hfz11_0); (try clear hfz11_1); (try clear hfz7_0); (try clear hfz7_1); (try clear p2); (try clear p6); obtain ⟨x5_2, x20_2, rfl, HA, HK2, HO_5, BK204, BKs, HB⟩ := hrel
      cases gk with
      | zero => exact absurd HA.out (by simp [impl_choicesOf.l1])
      | succ k2 =>
       have H := HA.out; clear HA; simp only [impl_choicesOf.l1] at H
       by_cases c12 : x20_2 < (wrap64 ((l0_1.length : Int) / 2))
       ·rw [if_pos c12] at H
        have c12b0 := dT c12; clear c12; simp only [hji3] at c12b0
        by_cases c13 : 0 ≤ x20_2
        ·rw [if_pos c13] at H
         have c13b0 := eq_true c13; have c13b1 := dT c13; clear c13
         obtain ⟨ji14, hji14⟩ : ∃ j_ : Int, (shr .i64 x12_1 x20_2) = j_ := ⟨_, rfl⟩
         replace H : (if (Go.bits .and .i64 (ji14) 1) = 1 then (if x5_2.length < 17592186044416 then (impl_choicesOf.l1 k2 px py pz x1_1 x12_1 (x5_2 ++ [x20_2]) ji5 x12_1 (wrap64 ((l0_1.length : Int) / 2)) (wrap64 (x20_2 + 1)) l0_0 l0_1) else (none)) else (impl_choicesOf.l1 k2 px py pz x1_1 x12_1 x5_2 ji5 x12_1 (wrap64 ((l0_1.length : Int) / 2)) (wrap64 (x20_2 + 1)) l0_0 l0_1)) = some r := by first | (rw [hji14] at H; exact H) | (simp only [hji14] at H ⊢; exact H)
         have hji14_ : (x12_1 / 2 ^ min x20_2.toNat 64) = ji14 := hji14
         have hji14z : x20_2 ≤ 64 → (x12_1 / 2 ^ x20_2.toNat) = ji14 := shr_small hji14
         by_cases c15 : (Go.bits .and .i64 (ji14) 1) = 1
         ·rw [if_pos c15] at H
          have c15b0 : ((Go.bits .and .i64 (ji14) 1) == 1) = true := beq_iff_eq.mpr c15
          have c15b1 : ((Go.bits .and .i64 (ji14) 1) != 1) = false := bne_eq_false_iff_eq.mpr c15
          clear c15
          by_cases c16 : x5_2.length < 17592186044416
          ·rw [if_pos c16] at H
           have LMc16 := A0_ c16; clear c16
           obtain ⟨y208, hy208⟩ : ∃ y_ : List Int, y_ = (x5_2 ++ [x20_2]) := ⟨_, rfl⟩
           replace H : (impl_choicesOf.l1 k2 px py pz x1_1 x12_1 y208 ji5 x12_1 (wrap64 ((l0_1.length : Int) / 2)) (wrap64 (x20_2 + 1)) l0_0 l0_1) = some r := zH hy208 H
           have Ny208 := A0_ hy208; clear hy208; have H' := A0_ H; clear H
           go_wp2_with (first | ((with_reducible refine gB (b := .append) (xs := #[.tmp 28, .tmp 30]) rfl ?_); at_builtin; refine Kd.R_append (Kd.int .i64) (w0 := w) w.heap.size rfl (.tmp 28) (.tmp 30) 23 3 (.int .i64 0) 8 rfl Tryz.underlying23 info3 rfl (by decide) (by omega) u5 x5_2 x20_2 [.int .i64 x20_2] (fun k_ => True ∧ k_ ≠ gs) (fun _ => False) rfl rfl ?aP (fun _ hk => hk.elim) ?aF ?aO ?aB ?aS ?aL ?_; (case aP => exact rfl); (case aB => exact (zB_ HB)); (case aF => exact (fun k_ hk => ⟨trivial, Kd.freshB (g := gs) (o := .cells #[.int .i64 x1_1] 3 (0, 0)) (zK_ BKs) k_ hk⟩)); (case aO => exact (zR_ HO_5)); (case aS => exact (bZ (zB_ HB))); (case aL => have := LMc16.out; omega); intro v209 w17 ho hb hg hat; rw [← Ny208.out] at ho; replace BKs := A0_ (blk_grown (g := gs) (o := .cells #[.int .i64 x1_1] 3 (0, 0)) (zK_ BKs) hg (fun e_ => (HO_5.out.1 gs e_.symm).2 rfl)); replace BK204 := A0_ (blk_grown (g := gb204) (o := .cells #[.slice A0_0 l0_0.length c0_0, .slice A0_1 l0_1.length c0_1] 25 (0, 0)) (zK_ BK204) hg (Kd.R_ne HO_5.out BK204.out (by decide))); replace HB := A0_ (hb); have HO210 := A0_ (ho); clear HO_5 ho hb hg hat))
           go_roundg k2
           case measure => have := HK1.out; have := HK2.out; omega
           case rel => exact ⟨(y208), (wrap64 (x20_2 + 1)), zt, H', ⟨by have := HK1.out; have := HK2.out; omega⟩, ⟨zR_ HO210⟩, ⟨zK_ BK204⟩, ⟨zK_ BKs⟩, ⟨zB_ HB⟩⟩
          rw [if_neg c16] at H
          exact absurd H (by simp)
         rw [if_neg c15] at H
         have c15b0 : ((Go.bits .and .i64 (ji14) 1) == 1) = false := beq_eq_false_iff_ne.mpr c15
         have c15b1 : ((Go.bits .and .i64 (ji14) 1) != 1) = true := bne_iff_ne.mpr c15
         have H' := A0_ H; clear H
         go_wp2
         go_roundg k2
         case measure => have := HK1.out; have := HK2.out; omega
         case rel => exact ⟨(x5_2), (wrap64 (x20_2 + 1)), zt, H', ⟨by have := HK1.out; have := HK2.out; omega⟩, ⟨zR_ HO_5⟩, ⟨zK_ BK204⟩, ⟨zK_ BKs⟩, ⟨zB_ HB⟩⟩
        rw [if_neg c13] at H
        exact absurd H (by simp)
       rw [if_neg c12] at H; have c12b0 := dF c12; clear c12; simp only [hji3] at c12b0; obtain ⟨t211, A18, H⟩ := zbind H; have H' := A0_ H; clear H; obtain ⟨Ao19, co19, eo19⟩ := rS HO_5.out; subst eo19
       go_wp2_with (first | (go_at_call 39; refine (impl_RibbonValue_1.calls k2 A0_0 c0_0 l0_0 A0_1 c0_1 l0_1 Ao19 co19 x5_2 gm gs gx gy gz x1_1 px py pz t211 _ (cB HR0_0.out (zB_ HB)) HC0_0.out (cB HR0_1.out (zB_ HB)) HC0_1.out (zD HO_5) (rR HO_5.out).2.1 (kB BKm.out (zB_ HB)) (zK_ BKs) (kB BKx.out (zB_ HB)) (kB BKy.out (zB_ HB)) (kB BKz.out (zB_ HB)) A18.out).mono ?_; rintro e w20 ⟨⟨v_, rfl⟩, hs_, hk_, hu_⟩; have hm_ := (hk_.2 gb204 (kL (zK_ BK204)) (Ne.symm NS204.out)).trans (zK_ BK204); replace BK204 := A0_ hm_; replace BKs := A0_ hs_; replace HB := A0_ ((zB_ HB).trans (hu_.mono HGS.out)); clear HO_5 hs_ hk_ hu_ hm_))
       go_roundg k2
       case measure => have := HK1.out; have := HK2.out; omega
       case rel => exact ⟨(t211), (wrap64 (x12_1 + 1)), zt, H', ⟨by have := HK1.out; have := HK2.out; omega⟩, ⟨zK_ BK204⟩, ⟨zK_ BKs⟩, ⟨zB_ HB⟩⟩
    rw [if_neg c8] at H
    have c8b0 := dF c8; clear c8
    obtain rfl := sI H
    go_wp2
    go_end0
    exact ⟨⟨_, rfl⟩, zK_ BKs, zB_ HB⟩
 rw [if_neg c4] at H
 exact absurd H (by simp)



/-! ### impl_RibbonValue: function 15 -/
def impl_RibbonValue.f (k : Nat) (l0_0 : List Int) (l0_1 : List Int) (a1 : Int) (a2 : Int) (a3 : Int) : Option (Int) := (impl_MapValid.f k l0_0 l0_1).bind fun t208 => (if t208 = true then (if a1 < 0 then (some (-1)) else (if a1 > 3 then (some (-1)) else (if a2 < 0 then (some (-1)) else (if a2 > 3 then (some (-1)) else (if a3 < 0 then (some (-1)) else (if a3 > 3 then (some (-1)) else ((impl_choicesOf.f k l0_0 l0_1 a1 a2 a3 0).bind fun t210 => (some t210)))))))) else (some (-1)))
set_option maxHeartbeats 8000000 in
set_option maxRecDepth 100000 in
theorem impl_RibbonValue.calls (k : Nat) (A0_0 : Option Addr) (c0_0 : Nat) (l0_0 : List Int) (A0_1 : Option Addr) (c0_1 : Nat) (l0_1 : List Int) (a1 : Int) (a2 : Int) (a3 : Int) (r : Int) (w : World) (hr0_0 : Kd.C (Kd.int .i64) w A0_0 l0_0.length l0_0) (hc0_0 : l0_0.length ≤ c0_0) (hr0_1 : Kd.C (Kd.int .i64) w A0_1 l0_1.length l0_1) (hc0_1 : l0_1.length ≤ c0_1) (h : impl_RibbonValue.f k l0_0 l0_1 a1 a2 a3 = some r) :
    Calls Tryz.prog 15 #[.agg #[.slice A0_0 l0_0.length c0_0, .slice A0_1 l0_1.length c0_1], .int .i64 a1, .int .i64 a2, .int .i64 a3] w fun e w' => e = .returned (.int .i64 r) ∧ Below w.heap.size w w' := by
 have hu25 := Tryz.underlying25; have HR0_0 := A0_ hr0_0; have HC0_0 := A0_ hc0_0; clear hr0_0 hc0_0; have HR0_1 := A0_ hr0_1; have HC0_1 := A0_ hc0_1; clear hr0_1 hc0_1
 have HB := A0_ (Below.refl w.heap.size w)
 have H : ((impl_MapValid.f k l0_0 l0_1).bind fun t208 => (if t208 = true then (if a1 < 0 then (some (-1)) else (if a1 > 3 then (some (-1)) else (if a2 < 0 then (some (-1)) else (if a2 > 3 then (some (-1)) else (if a3 < 0 then (some (-1)) else (if a3 > 3 then (some (-1)) else ((impl_choicesOf.f k l0_0 l0_1 a1 a2 a3 0).bind fun t210 => (some t210)))))))) else (some (-1)))) = some r := h
 clear h; obtain ⟨t208, A5, H⟩ := zbind H
 by_cases c6 : t208 = true
 ·subst c6
  rw [if_pos rfl] at H
  by_cases c7 : a1 < 0
  ·rw [if_pos c7] at H
   have c7b0 := dT c7; clear c7; obtain rfl := sI H
   go_enter Tryz.func15, Tryz.ntmps15
   go_wp2_with (first | ((with_reducible refine gD (N := 4) rfl ?_); refine zX (N := 4) (cs := #[.slice A0_0 l0_0.length c0_0, .slice A0_1 l0_1.length c0_1]) (t := 25) ?_; intro gb204 hg w8 hbox hb; have BK204 := A0_ (hbox); have GW204 := zG hg HB; have GE204 := zG hg HB; replace HB := zB HB hb; clear hb hbox hg) | ((with_reducible refine gD (N := 5) rfl ?_); refine zX (N := 5) (cs := #[.int .i64 a1]) (t := 3) ?_; intro gb205 hg w9 hbox hb; have BK205 := A0_ (hbox); have GW205 := zG hg HB; have GE205 := zG hg HB; replace HB := zB HB hb; have NB204_205 := zL hg BK204; have NB205_204 := zM hg BK204; replace BK204 := zK BK204 hb; clear hb hbox hg) | ((with_reducible refine gD (N := 6) rfl ?_); refine zX (N := 6) (cs := #[.int .i64 a2]) (t := 3) ?_; intro gb206 hg w10 hbox hb; have BK206 := A0_ (hbox); have GW206 := zG hg HB; have GE206 := zG hg HB; replace HB := zB HB hb; have NB204_206 := zL hg BK204; have NB206_204 := zM hg BK204; replace BK204 := zK BK204 hb; have NB205_206 := zL hg BK205; have NB206_205 := zM hg BK205; replace BK205 := zK BK205 hb; clear hb hbox hg) | ((with_reducible refine gD (N := 7) rfl ?_); refine zX (N := 7) (cs := #[.int .i64 a3]) (t := 3) ?_; intro gb207 hg w11 hbox hb; have BK207 := A0_ (hbox); have GW207 := zG hg HB; have GE207 := zG hg HB; replace HB := zB HB hb; have NB204_207 := zL hg BK204; have NB207_204 := zM hg BK204; replace BK204 := zK BK204 hb; have NB205_207 := zL hg BK205; have NB207_205 := zM hg BK205; replace BK205 := zK BK205 hb; have NB206_207 := zL hg BK206; have NB207_206 := zM hg BK206; replace BK206 := zK BK206 hb; clear hb hbox hg; have hnb12 := NB204_205.out; have hnc12 := NB205_204.out; have hnb13 := NB204_206.out; have hnc13 := NB206_204.out; have hnb14 := NB204_207.out; have hnc14 := NB207_204.out; have hcz15_0 := zc0 BK204; have hcz15_1 := zc1 BK204; have hfz15_0 := kF BK204.out 0; have hfz15_1 := kF BK204.out 1) | ((with_reducible refine gC (f := 24) rfl ?_); refine zJ (some 11) Tryz.func24 #[.agg #[.slice A0_0 l0_0.length c0_0, .slice A0_1 l0_1.length c0_1]] ?_; (with_reducible refine (impl_MapValid.calls k (fun k_ => k_ < w.heap.size) _ _ l0_0 (fun k_ => k_ < w.heap.size) _ _ l0_1 true _ ?side1 ?side2 A5.out).mono ?_); (case side1 => exact Kd.V_mk HC0_0.out (Kd.F_below (Kd.C_F (Kd.heap_int .i64) HR0_0.out) (zB_ HB))); (case side2 => exact Kd.V_mk HC0_1.out (Kd.F_below (Kd.C_F (Kd.heap_int .i64) HR0_1.out) (zB_ HB))); rintro e w16 ⟨rfl, hb⟩; refine ⟨_, rfl, ?_⟩; replace BK204 := zK BK204 hb; replace BK205 := zK BK205 hb; replace BK206 := zK BK206 hb; replace BK207 := zK BK207 hb; replace HB := zB HB hb; (try clear hb); have hnb17 := NB205_206.out; have hnc17 := NB206_205.out; have hnb18 := NB205_207.out; have hnc18 := NB207_205.out; have hcz19_0 : w16.cell? ⟨gb205, 0, none⟩ = some (.int .i64 a1) := (kC BK205.out 0).trans rfl; have hfz19_0 := kF BK205.out 0))
   go_ret
   exact ⟨by first | rfl | (simp [*] <;> rfl), zB_ HB⟩
  rw [if_neg c7] at H; have c7b0 := dF c7; clear c7
  by_cases c20 : a1 > 3
  ·rw [if_pos c20] at H
   have c20b0 : decide (3 < a1) = true := dT c20
   clear c20; obtain rfl := sI H
   go_enter Tryz.func15, Tryz.ntmps15
   go_wp2_with (first | ((with_reducible refine gD (N := 4) rfl ?_); refine zX (N := 4) (cs := #[.slice A0_0 l0_0.length c0_0, .slice A0_1 l0_1.length c0_1]) (t := 25) ?_; intro gb204 hg w21 hbox hb; have BK204 := A0_ (hbox); have GW204 := zG hg HB; have GE204 := zG hg HB; replace HB := zB HB hb; clear hb hbox hg) | ((with_reducible refine gD (N := 5) rfl ?_); refine zX (N := 5) (cs := #[.int .i64 a1]) (t := 3) ?_; intro gb205 hg w22 hbox hb; have BK205 := A0_ (hbox); have GW205 := zG hg HB; have GE205 := zG hg HB; replace HB := zB HB hb; have NB204_205 := zL hg BK204; have NB205_204 := zM hg BK204; replace BK204 := zK BK204 hb; clear hb hbox hg) | ((with_reducible refine gD (N := 6) rfl ?_); refine zX (N := 6) (cs := #[.int .i64 a2]) (t := 3) ?_; intro gb206 hg w23 hbox hb; have BK206 := A0_ (hbox); have GW206 := zG hg HB; have GE206 := zG hg HB; replace HB := zB HB hb; have NB204_206 := zL hg BK204; have NB206_204 := zM hg BK204; replace BK204 := zK BK204 hb; have NB205_206 := zL hg BK205; have NB206_205 := zM hg BK205; replace BK205 := zK BK205 hb; clear hb hbox hg) | ((with_reducible refine gD (N := 7) rfl ?_); refine zX (N := 7) (cs := #[.int .i64 a3]) (t := 3) ?_; intro gb207 hg w24 hbox hb; have BK207 := A0_ (hbox); have GW207 := zG hg HB; have GE207 := zG hg HB; replace HB := zB HB hb; have NB204_207 := zL hg BK204; have NB207_204 := zM hg BK204; replace BK204 := zK BK204 hb; have NB205_207 := zL hg BK205; have NB207_205 := zM hg BK205; replace BK205 := zK BK205 hb; have NB206_207 := zL hg BK206; have NB207_206 := zM hg BK206; replace BK206 := zK BK206 hb; clear hb hbox hg; have hnb25 := NB204_205.out; have hnc25 := NB205_204.out; have hnb26 := NB204_206.out; have hnc26 := NB206_204.out; have hnb27 := NB204_207.out; have hnc27 := NB207_204.out; have hcz28_0 := zc0 BK204; have hcz28_1 := zc1 BK204; have hfz28_0 := kF BK204.out 0; have hfz28_1 := kF BK204.out 1) | ((with_reducible refine gC (f := 24) rfl ?_); refine zJ (some 11) Tryz.func24 #[.agg #[.slice A0_0 l0_0.length c0_0, .slice A0_1 l0_1.length c0_1]] ?_; (with_reducible refine (impl_MapValid.calls k (fun k_ => k_ < w.heap.size) _ _ l0_0 (fun k_ => k_ < w.heap.size) _ _ l0_1 true _ ?side1 ?side2 A5.out).mono ?_); (case side1 => exact Kd.V_mk HC0_0.out (Kd.F_below (Kd.C_F (Kd.heap_int .i64) HR0_0.out) (zB_ HB))); (case side2 => exact Kd.V_mk HC0_1.out (Kd.F_below (Kd.C_F (Kd.heap_int .i64) HR0_1.out) (zB_ HB))); rintro e w29 ⟨rfl, hb⟩; refine ⟨_, rfl, ?_⟩; replace BK204 := zK BK204 hb; replace BK205 := zK BK205 hb; replace BK206 := zK BK206 hb; replace BK207 := zK BK207 hb; replace HB := zB HB hb; (try clear hb); have hnb30 := NB205_206.out; have hnc30 := NB206_205.out; have hnb31 := NB205_207.out; have hnc31 := NB207_205.out; have hcz32_0 : w29.cell? ⟨gb205, 0, none⟩ = some (.int .i64 a1) := (kC BK205.out 0).trans rfl; have hfz32_0 := kF BK205.out 0))
   go_ret
   exact ⟨by first | rfl | (simp [*] <;> rfl), zB_ HB⟩
  rw [if_neg c20] at H
  have c20b0 : decide (3 < a1) = false := dF c20
  clear c20
  by_cases c33 : a2 < 0
  ·rw [if_pos c33] at H
   have c33b0 := dT c33; clear c33; obtain rfl := sI H
   go_enter Tryz.func15, Tryz.ntmps15
   go_wp2_with (first | ((with_reducible refine gD (N := 4) rfl ?_); refine zX (N := 4) (cs := #[.slice A0_0 l0_0.length c0_0, .slice A0_1 l0_1.length c0_1]) (t := 25) ?_; intro gb204 hg w34 hbox hb; have BK204 := A0_ (hbox); have GW204 := zG hg HB; have GE204 := zG hg HB; replace HB := zB HB hb; clear hb hbox hg) | ((with_reducible refine gD (N := 5) rfl ?_); refine zX (N := 5) (cs := #[.int .i64 a1]) (t := 3) ?_; intro gb205 hg w35 hbox hb; have BK205 := A0_ (hbox); have GW205 := zG hg HB; have GE205 := zG hg HB; replace HB := zB HB hb; have NB204_205 := zL hg BK204; have NB205_204 := zM hg BK204; replace BK204 := zK BK204 hb; clear hb hbox hg) | ((with_reducible refine gD (N := 6) rfl ?_); refine zX (N := 6) (cs := #[.int .i64 a2]) (t := 3) ?_; intro gb206 hg w36 hbox hb; have BK206 := A0_ (hbox); have GW206 := zG hg HB; have GE206 := zG hg HB; replace HB := zB HB hb; have NB204_206 := zL hg BK204; have NB206_204 := zM hg BK204; replace BK204 := zK BK204 hb; have NB205_206 := zL hg BK205; have NB206_205 := zM hg BK205; replace BK205 := zK BK205 hb; clear hb hbox hg) | ((with_reducible refine gD (N := 7) rfl ?_); refine zX (N := 7) (cs := #[.int .i64 a3]) (t := 3) ?_; intro gb207 hg w37 hbox hb; have BK207 := A0_ (hbox); have GW207 := zG hg HB; have GE207 := zG hg HB; replace HB := zB HB hb; have NB204_207 := zL hg BK204; have NB207_204 := zM hg BK204; replace BK204 := zK BK204 hb; have NB205_207 := zL hg BK205; have NB207_205 := zM hg BK205; replace BK205 := zK BK205 hb; have NB206_207 := zL hg BK206; have NB207_206 := zM hg BK206; replace BK206 := zK BK206 hb; clear hb hbox hg; have hnb38 := NB204_205.out; have hnc38 := NB205_204.out; have hnb39 := NB204_206.out; have hnc39 := NB206_204.out; have hnb40 := NB204_207.out; have hnc40 := NB207_204.out; have hcz41_0 := zc0 BK204; have hcz41_1 := zc1 BK204; have hfz41_0 := kF BK204.out 0; have hfz41_1 := kF BK204.out 1) | ((with_reducible refine gC (f := 24) rfl ?_); refine zJ (some 11) Tryz.func24 #[.agg #[.slice A0_0 l0_0.length c0_0, .slice A0_1 l0_1.length c0_1]] ?_; (with_reducible refine (impl_MapValid.calls k (fun k_ => k_ < w.heap.size) _ _ l0_0 (fun k_ => k_ < w.heap.size) _ _ l0_1 true _ ?side1 ?side2 A5.out).mono ?_); (case side1 => exact Kd.V_mk HC0_0.out (Kd.F_below (Kd.C_F (Kd.heap_int .i64) HR0_0.out) (zB_ HB))); (case side2 => exact Kd.V_mk HC0_1.out (Kd.F_below (Kd.C_F (Kd.heap_int .i64) HR0_1.out) (zB_ HB))); rintro e w42 ⟨rfl, hb⟩; refine ⟨_, rfl, ?_⟩; replace BK204 := zK BK204 hb; replace BK205 := zK BK205 hb; replace BK206 := zK BK206 hb; replace BK207 := zK BK207 hb; replace HB := zB HB hb; (try clear hb); have hnb43 := NB205_206.out; have hnc43 := NB206_205.out; have hnb44 := NB205_207.out; have hnc44 := NB207_205.out; have hcz45_0 : w42.cell? ⟨gb205, 0, none⟩ = some (.int .i64 a1) := (kC BK205.out 0).trans rfl; have hfz45_0 := kF BK205.out 0; have hnb46 := NB206_207.out; have hnc46 := NB207_206.out; have hcz47_0 : w42.cell? ⟨gb206, 0, none⟩ = some (.int .i64 a2) := (kC BK206.out 0).trans rfl; have hfz47_0 := kF BK206.out 0))
   go_ret
   exact ⟨by first | rfl | (simp [*] <;> rfl), zB_ HB⟩
  rw [if_neg c33] at H; have c33b0 := dF c33; clear c33
  by_cases c48 : a2 > 3
  ·rw [if_pos c48] at H
   have c48b0 : decide (3 < a2) = true := dT c48
   clear c48; obtain rfl := sI H
   go_enter Tryz.func15, Tryz.ntmps15
   go_wp2_with (first | ((with_reducible refine gD (N := 4) rfl ?_); refine zX (N := 4) (cs := #[.slice A0_0 l0_0.length c0_0, .slice A0_1 l0_1.length c0_1]) (t := 25) ?_; intro gb204 hg w49 hbox hb; have BK204 := A0_ (hbox); have GW204 := zG hg HB; have GE204 := zG hg HB; replace HB := zB HB hb; clear hb hbox hg) | ((with_reducible refine gD (N := 5) rfl ?_); refine zX (N := 5) (cs := #[.int .i64 a1]) (t := 3) ?_; intro gb205 hg w50 hbox hb; have BK205 := A0_ (hbox); have GW205 := zG hg HB; have GE205 := zG hg HB; replace HB := zB HB hb; have NB204_205 := zL hg BK204; have NB205_204 := zM hg BK204; replace BK204 := zK BK204 hb; clear hb hbox hg) | ((with_reducible refine gD (N := 6) rfl ?_); refine zX (N := 6) (cs := #[.int .i64 a2]) (t := 3) ?_; intro gb206 hg w51 hbox hb; have BK206 := A0_ (hbox); have GW206 := zG hg HB; have GE206 := zG hg HB; replace HB := zB HB hb; have NB204_206 := zL hg BK204; have NB206_204 := zM hg BK204; replace BK204 := zK BK204 hb; have NB205_206 := zL hg BK205; have NB206_205 := zM hg BK205; replace BK205 := zK BK205 hb; clear hb hbox hg) | ((with_reducible refine gD (N := 7) rfl ?_); refine zX (N := 7) (cs := #[.int .i64 a3]) (t := 3) ?_; intro gb207 hg w52 hbox hb; have BK207 := A0_ (hbox); have GW207 := zG hg HB; have GE207 := zG hg HB; replace HB := zB HB hb; have NB204_207 := zL hg BK204; have NB207_204 := zM hg BK204; replace BK204 := zK BK204 hb; have NB205_207 := zL hg BK205; have NB207_205 := zM hg BK205; replace BK205 := zK BK205 hb; have NB206_207 := zL hg BK206; have NB207_206 := zM hg BK206; replace BK206 := zK BK206 hb; clear hb hbox hg; have hnb53 := NB204_205.out; have hnc53 := NB205_204.out; have hnb54 := NB204_206.out; have hnc54 := NB206_204.out; have hnb55 := NB204_207.out; have hnc55 := NB207_204.out; have hcz56_0 := zc0 BK204; have hcz56_1 := zc1 BK204; have hfz56_0 := kF BK204.out 0; have hfz56_1 := kF BK204.out 1) | ((with_reducible refine gC (f := 24) rfl ?_); refine zJ (some 11) Tryz.func24 #[.agg #[.slice A0_0 l0_0.length c0_0, .slice A0_1 l0_1.length c0_1]] ?_; (with_reducible refine (impl_MapValid.calls k (fun k_ => k_ < w.heap.size) _ _ l0_0 (fun k_ => k_ < w.heap.size) _ _ l0_1 true _ ?side1 ?side2 A5.out).mono ?_); (case side1 => exact Kd.V_mk HC0_0.out (Kd.F_below (Kd.C_F (Kd.heap_int .i64) HR0_0.out) (zB_ HB))); (case side2 => exact Kd.V_mk HC0_1.out (Kd.F_below (Kd.C_F (Kd.heap_int .i64) HR0_1.out) (zB_ HB))); rintro e w57 ⟨rfl, hb⟩; refine ⟨_, rfl, ?_⟩; replace BK204 := zK BK204 hb; replace BK205 := zK BK205 hb; replace BK206 := zK BK206 hb; replace BK207 := zK BK207 hb; replace HB := zB HB hb; (try clear hb); have hnb58 := NB205_206.out; have hnc58 := NB206_205.out; have hnb59 := NB205_207.out; have hnc59 := NB207_205.out; have hcz60_0 : w57.cell? ⟨gb205, 0, none⟩ = some (.int .i64 a1) := (kC BK205.out 0).trans rfl; have hfz60_0 := kF BK205.out 0; have hnb61 := NB206_207.out; have hnc61 := NB207_206.out; have hcz62_0 : w57.cell? ⟨gb206, 0, none⟩ = some (.int .i64 a2) := (kC BK206.out 0).trans rfl; have hfz62_0 := kF BK206.out 0))
   go_ret
   exact ⟨by first | rfl | (simp [*] <;> rfl), zB_ HB⟩
  rw [if_neg c48] at H
  have c48b0 : decide (3 < a2) = false := dF c48
  clear c48
  by_cases c63 : a3 < 0
  ·rw [if_pos c63] at H
   have c63b0 := dT c63; clear c63; obtain rfl := sI H
   go_enter Tryz.func15, Tryz.ntmps15
   go_wp2_with (first | ((with_reducible refine gD (N := 4) rfl ?_); refine zX (N := 4) (cs := #[.slice A0_0 l0_0.length c0_0, .slice A0_1 l0_1.length c0_1]) (t := 25) ?_; intro gb204 hg w64 hbox hb; have BK204 := A0_ (hbox); have GW204 := zG hg HB; have GE204 := zG hg HB; replace HB := zB HB hb; clear hb hbox hg) | ((with_reducible refine gD (N := 5) rfl ?_); refine zX (N := 5) (cs := #[.int .i64 a1]) (t := 3) ?_; intro gb205 hg w65 hbox hb; have BK205 := A0_ (hbox); have GW205 := zG hg HB; have GE205 := zG hg HB; replace HB := zB HB hb; have NB204_205 := zL hg BK204; have NB205_204 := zM hg BK204; replace BK204 := zK BK204 hb; clear hb hbox hg) | ((with_reducible refine gD (N := 6) rfl ?_); refine zX (N := 6) (cs := #[.int .i64 a2]) (t := 3) ?_; intro gb206 hg w66 hbox hb; have BK206 := A0_ (hbox); have GW206 := zG hg HB; have GE206 := zG hg HB; replace HB := zB HB hb; have NB204_206 := zL hg BK204; have NB206_204 := zM hg BK204; replace BK204 := zK BK204 hb; have NB205_206 := zL hg BK205; have NB206_205 := zM hg BK205; replace BK205 := zK BK205 hb; clear hb hbox hg) | ((with_reducible refine gD (N := 7) rfl ?_); refine zX (N := 7) (cs := #[.int .i64 a3]) (t := 3) ?_; intro gb207 hg w67 hbox hb; have BK207 := A0_ (hbox); have GW207 := zG hg HB; have GE207 := zG hg HB; replace HB := zB HB hb; have NB204_207 := zL hg BK204; have NB207_204 := zM hg BK204; replace BK204 := zK BK204 hb; have NB205_207 := zL hg BK205; have NB207_205 := zM hg BK205; replace BK205 := zK BK205 hb; have NB206_207 := zL hg BK206; have NB207_206 := zM hg BK206; replace BK206 := zK BK206 hb; clear hb hbox hg; have hnb68 := NB204_205.out; have hnc68 := NB205_204.out; have hnb69 := NB204_206.out; have hnc69 := NB206_204.out; have hnb70 := NB204_207.out; have hnc70 := NB207_204.out; have hcz71_0 := zc0 BK204; have hcz71_1 := zc1 BK204; have hfz71_0 := kF BK204.out 0; have hfz71_1 := kF BK204.out 1) | ((with_reducible refine gC (f := 24) rfl ?_); refine zJ (some 11) Tryz.func24 #[.agg #[.slice A0_0 l0_0.length c0_0, .slice A0_1 l0_1.length c0_1]] ?_; (with_reducible refine (impl_MapValid.calls k (fun k_ => k_ < w.heap.size) _ _ l0_0 (fun k_ => k_ < w.heap.size) _ _ l0_1 true _ ?side1 ?side2 A5.out).mono ?_); (case side1 => exact Kd.V_mk HC0_0.out (Kd.F_below (Kd.C_F (Kd.heap_int .i64) HR0_0.out) (zB_ HB))); (case side2 => exact Kd.V_mk HC0_1.out (Kd.F_below (Kd.C_F (Kd.heap_int .i64) HR0_1.out) (zB_ HB))); rintro e w72 ⟨rfl, hb⟩; refine ⟨_, rfl, ?_⟩; replace BK204 := zK BK204 hb; replace BK205 := zK BK205 hb; replace BK206 := zK BK206 hb; replace BK207 := zK BK207 hb; replace HB := zB HB hb; (try clear hb); have hnb73 := NB205_206.out; have hnc73 := NB206_205.out; have hnb74 := NB205_207.out; have hnc74 := NB207_205.out; have hcz75_0 : w72.cell? ⟨gb205, 0, none⟩ = some (.int .i64 a1) := (kC BK205.out 0).trans rfl; have hfz75_0 := kF BK205.out 0; have hnb76 := NB206_207.out; have hnc76 := NB207_206.out; have hcz77_0 : w72.cell? ⟨gb206, 0, none⟩ = some (.int .i64 a2) := (kC BK206.out 0).trans rfl; have hfz77_0 := kF BK206.out 0; have hcz78_0 : w72.cell? ⟨gb207, 0, none⟩ = some (.int .i64 a3) := (kC BK207.out 0).trans rfl; have hfz78_0 := kF BK207.out 0))
   go_ret
   exact ⟨by first | rfl | (simp [*] <;> rfl), zB_ HB⟩
  rw [if_neg c63] at H; have c63b0 := dF c63; clear c63
  by_cases c79 : a3 > 3
  ·rw [if_pos c79] at H
   have c79b0 : decide (3 < a3) = true := dT c79
   clear c79; obtain rfl := sI H
   go_enter Tryz.func15, Tryz.ntmps15
   go_wp2_with (first | ((with_reducible refine gD (N := 4) rfl ?_); refine zX (N := 4) (cs := #[.slice A0_0 l0_0.length c0_0, .slice A0_1 l0_1.length c0_1]) (t := 25) ?_; intro gb204 hg w80 hbox hb; have BK204 := A0_ (hbox); have GW204 := zG hg HB; have GE204 := zG hg HB; replace HB := zB HB hb; clear hb hbox hg) | ((with_reducible refine gD (N := 5) rfl ?_); refine zX (N := 5) (cs := #[.int .i64 a1]) (t := 3) ?_; intro gb205 hg w81 hbox hb; have BK205 := A0_ (hbox); have GW205 := zG hg HB; have GE205 := zG hg HB; replace HB := zB HB hb; have NB204_205 := zL hg BK204; have NB205_204 := zM hg BK204; replace BK204 := zK BK204 hb; clear hb hbox hg) | ((with_reducible refine gD (N := 6) rfl ?_); refine zX (N := 6) (cs := #[.int .i64 a2]) (t := 3) ?_; intro gb206 hg w82 hbox hb; have BK206 := A0_ (hbox); have GW206 := zG hg HB; have GE206 := zG hg HB; replace HB := zB HB hb; have NB204_206 := zL hg BK204; have NB206_204 := zM hg BK204; replace BK204 := zK BK204 hb; have NB205_206 := zL hg BK205; have NB206_205 := zM hg BK205; replace BK205 := zK BK205 hb; clear hb hbox hg) | ((with_reducible refine gD (N := 7) rfl ?_); refine zX (N := 7) (cs := #[.int .i64 a3]) (t := 3) ?_; intro gb207 hg w83 hbox hb; have BK207 := A0_ (hbox); have GW207 := zG hg HB; have GE207 := zG hg HB; replace HB := zB HB hb; have NB204_207 := zL hg BK204; have NB207_204 := zM hg BK204; replace BK204 := zK BK204 hb; have NB205_207 := zL hg BK205; have NB207_205 := zM hg BK205; replace BK205 := zK BK205 hb; have NB206_207 := zL hg BK206; have NB207_206 := zM hg BK206; replace BK206 := zK BK206 hb; clear hb hbox hg; have hnb84 := NB204_205.out; have hnc84 := NB205_204.out; have hnb85 := NB204_206.out; have hnc85 := NB206_204.out; have hnb86 := NB204_207.out; have hnc86 := NB207_204.out; have hcz87_0 := zc0 BK204; have hcz87_1 := zc1 BK204; have hfz87_0 := kF BK204.out 0; have hfz87_1 := kF BK204.out 1) | ((with_reducible refine gC (f := 24) rfl ?_); refine zJ (some 11) Tryz.func24 #[.agg #[.slice A0_0 l0_0.length c0_0, .slice A0_1 l0_1.length c0_1]] ?_; (with_reducible refine (impl_MapValid.calls k (fun k_ => k_ < w.heap.size) _ _ l0_0 (fun k_ => k_ < w.heap.size) _ _ l0_1 true _ ?side1 ?side2 A5.out).mono ?_); (case side1 => exact Kd.V_mk HC0_0.out (Kd.F_below (Kd.C_F (Kd.heap_int .i64) HR0_0.out) (zB_ HB))); (case side2 => exact Kd.V_mk HC0_1.out (Kd.F_below (Kd.C_F (Kd.heap_int .i64) HR0_1.out) (zB_ HB))); rintro e w88 ⟨rfl, hb⟩; refine ⟨_, rfl, ?_⟩; replace BK204 := zK BK204 hb; replace BK205 := zK BK205 hb; replace BK206 := zK BK206 hb; replace BK207 := zK BK207 hb; replace HB := zB HB hb; (try clear hb); have hnb89 := NB205_206.out; have hnc89 := NB206_205.out; have hnb90 := NB205_207.out; have hnc90 := NB207_205.out; have hcz91_0 : w88.cell? ⟨gb205, 0, none⟩ = some (.int .i64 a1) := (kC BK205.out 0).trans rfl; have hfz91_0 := kF BK205.out 0; have hnb92 := NB206_207.out; have hnc92 := NB207_206.out; have hcz93_0 : w88.cell? ⟨gb206, 0, none⟩ = some (.int .i64 a2) := (kC BK206.out 0).trans rfl; have hfz93_0 := kF BK206.out 0; have hcz94_0 : w88.cell? ⟨gb207, 0, none⟩ = some (.int .i64 a3) := (kC BK207.out 0).trans rfl; have hfz94_0 := kF BK207.out 0))
   go_ret
   exact ⟨by first | rfl | (simp [*] <;> rfl), zB_ HB⟩
  rw [if_neg c79] at H
  have c79b0 : decide (3 < a3) = false := dF c79
  clear c79; obtain ⟨t210, A95, H⟩ := zbind H; obtain rfl := sI H
  go_enter Tryz.func15, Tryz.ntmps15
  go_wp2_with (first | ((with_reducible refine gD (N := 4) rfl ?_); refine zX (N := 4) (cs := #[.slice A0_0 l0_0.length c0_0, .slice A0_1 l0_1.length c0_1]) (t := 25) ?_; intro gb204 hg w96 hbox hb; have BK204 := A0_ (hbox); have GW204 := zG hg HB; have GE204 := zG hg HB; replace HB := zB HB hb; clear hb hbox hg) | ((with_reducible refine gD (N := 5) rfl ?_); refine zX (N := 5) (cs := #[.int .i64 a1]) (t := 3) ?_; intro gb205 hg w97 hbox hb; have BK205 := A0_ (hbox); have GW205 := zG hg HB; have GE205 := zG hg HB; replace HB := zB HB hb; have NB204_205 := zL hg BK204; have NB205_204 := zM hg BK204; replace BK204 := zK BK204 hb; clear hb hbox hg) | ((with_reducible refine gD (N := 6) rfl ?_); refine zX (N := 6) (cs := #[.int .i64 a2]) (t := 3) ?_; intro gb206 hg w98 hbox hb; have BK206 := A0_ (hbox); have GW206 := zG hg HB; have GE206 := zG hg HB; replace HB := zB HB hb; have NB204_206 := zL hg BK204; have NB206_204 := zM hg BK204; replace BK204 := zK BK204 hb; have NB205_206 := zL hg BK205; have NB206_205 := zM hg BK205; replace BK205 := zK BK205 hb; clear hb hbox hg) | ((with_reducible refine gD (N := 7) rfl ?_); refine zX (N := 7) (cs := #[.int .i64 a3]) (t := 3) ?_; intro gb207 hg w99 hbox hb; have BK207 := A0_ (hbox); have GW207 := zG hg HB; have GE207 := zG hg HB; replace HB := zB HB hb; have NB204_207 := zL hg BK204; have NB207_204 := zM hg BK204; replace BK204 := zK BK204 hb; have NB205_207 := zL hg BK205; have NB207_205 := zM hg BK205; replace BK205 := zK BK205 hb; have NB206_207 := zL hg BK206; have NB207_206 := zM hg BK206; replace BK206 := zK BK206 hb; clear hb hbox hg; have hnb100 := NB204_205.out; have hnc100 := NB205_204.out; have hnb101 := NB204_206.out; have hnc101 := NB206_204.out; have hnb102 := NB204_207.out; have hnc102 := NB207_204.out; have hcz103_0 := zc0 BK204; have hcz103_1 := zc1 BK204; have hfz103_0 := kF BK204.out 0; have hfz103_1 := kF BK204.out 1) | ((with_reducible refine gC (f := 24) rfl ?_); refine zJ (some 11) Tryz.func24 #[.agg #[.slice A0_0 l0_0.length c0_0, .slice A0_1 l0_1.length c0_1]] ?_; (with_reducible refine (impl_MapValid.calls k (fun k_ => k_ < w.heap.size) _ _ l0_0 (fun k_ => k_ < w.heap.size) _ _ l0_1 true _ ?side1 ?side2 A5.out).mono ?_); (case side1 => exact Kd.V_mk HC0_0.out (Kd.F_below (Kd.C_F (Kd.heap_int .i64) HR0_0.out) (zB_ HB))); (case side2 => exact Kd.V_mk HC0_1.out (Kd.F_below (Kd.C_F (Kd.heap_int .i64) HR0_1.out) (zB_ HB))); rintro e w104 ⟨rfl, hb⟩; refine ⟨_, rfl, ?_⟩; replace BK204 := zK BK204 hb; replace BK205 := zK BK205 hb; replace BK206 := zK BK206 hb; replace BK207 := zK BK207 hb; replace HB := zB HB hb; have SHB := HB; have B_ := A0_ (Below.refl w104.heap.size w104); have S204 := BK204; have S205 := BK205; have S206 := BK206; have S207 := BK207; (try clear hb); have hnb105 := NB205_206.out; have hnc105 := NB206_205.out; have hnb106 := NB205_207.out; have hnc106 := NB207_205.out; have hcz107_0 : w104.cell? ⟨gb205, 0, none⟩ = some (.int .i64 a1) := (kC BK205.out 0).trans rfl; have hfz107_0 := kF BK205.out 0; have hnb108 := NB206_207.out; have hnc108 := NB207_206.out; have hcz109_0 : w104.cell? ⟨gb206, 0, none⟩ = some (.int .i64 a2) := (kC BK206.out 0).trans rfl; have hfz109_0 := kF BK206.out 0; have hcz110_0 : w104.cell? ⟨gb207, 0, none⟩ = some (.int .i64 a3) := (kC BK207.out 0).trans rfl; have hfz110_0 := kF BK207.out 0) | ((with_reducible refine gD (N := 9) rfl ?_); refine zX (N := 9) (cs := #[.int .i64 0]) (t := 3) ?_; intro gb209 hg w111 hbox hb; have BK209 := A0_ (hbox); have GS_ := zG hg B_; replace B_ := zB B_ hb; have GW209 := zG hg HB; have GE209 := zG hg HB; replace HB := zB HB hb; have NB204_209 := zL hg BK204; have NB209_204 := zM hg BK204; replace BK204 := zK BK204 hb; have NB205_209 := zL hg BK205; have NB209_205 := zM hg BK205; replace BK205 := zK BK205 hb; have NB206_209 := zL hg BK206; have NB209_206 := zM hg BK206; replace BK206 := zK BK206 hb; have NB207_209 := zL hg BK207; have NB209_207 := zM hg BK207; replace BK207 := zK BK207 hb; clear hb hbox hg; have hnb112 := NB209_204.out; have hnc112 := NB204_209.out; have hnb113 := NB209_205.out; have hnc113 := NB205_209.out; have hnb114 := NB209_206.out; have hnc114 := NB206_209.out; have hnb115 := NB209_207.out; have hnc115 := NB207_209.out; have hcz116_0 : w111.cell? ⟨gb209, 0, none⟩ = some (.int .i64 0) := (kC BK209.out 0).trans rfl; have hfz116_0 := kF BK209.out 0; have hcz117_0 := zc0 BK204; have hcz117_1 := zc1 BK204; have hfz117_0 := kF BK204.out 0; have hfz117_1 := kF BK204.out 1) | (go_at_call 38; refine (impl_choicesOf.calls k A0_0 c0_0 l0_0 _ c0_1 l0_1 a1 a2 a3 0 t210 gb204 gb209 gb205 gb206 gb207 w104 _ (cB HR0_0.out SHB.out) HC0_0.out (cB HR0_1.out SHB.out) HC0_1.out ?sideB GS_.out S204.out S205.out S206.out S207.out ?sideS A95.out).mono ?_; (case sideB => exact (zB_ B_)); (case sideS => (with_reducible repeat (first | refine kN ?_ _ | refine kD ?_ | refine kA ?_ _)); refine blk_put (cs := #[.int .i64 0]) ?_ 0 _ rfl; (with_reducible repeat (first | refine kN ?_ _ | refine kD ?_ | refine kA ?_ _)); exact BK209.out); rintro e w_ ⟨⟨v_, rfl⟩, hs_, hB_⟩; replace HB := A0_ (SHB.out.trans (hB_.mono SHB.out.size)); have hczs_ : w_.cell? ⟨gb209, 0, none⟩ = some (.int .i64 t210) := (kC hs_ 0).trans rfl; clear hs_ hB_))
  go_ret
  exact ⟨by first | rfl | (simp [*] <;> rfl), zB_ HB⟩
 replace c6 := Bool.eq_false_iff.mpr c6; subst c6
 rw [if_neg (show ¬ (false = true) by decide)] at H
 obtain rfl := sI H
 go_enter Tryz.func15, Tryz.ntmps15
 go_wp2_with (first | ((with_reducible refine gD (N := 4) rfl ?_); refine zX (N := 4) (cs := #[.slice A0_0 l0_0.length c0_0, .slice A0_1 l0_1.length c0_1]) (t := 25) ?_; intro gb204 hg w119 hbox hb; have BK204 := A0_ (hbox); have GW204 := zG hg HB; have GE204 := zG hg HB; replace HB := zB HB hb; clear hb hbox hg) | ((with_reducible refine gD (N := 5) rfl ?_); refine zX (N := 5) (cs := #[.int .i64 a1]) (t := 3) ?_; intro gb205 hg w120 hbox hb; have BK205 := A0_ (hbox); have GW205 := zG hg HB; have GE205 := zG hg HB; replace HB := zB HB hb; have NB204_205 := zL hg BK204; have NB205_204 := zM hg BK204; replace BK204 := zK BK204 hb; clear hb hbox hg) | ((with_reducible refine gD (N := 6) rfl ?_); refine zX (N := 6) (cs := #[.int .i64 a2]) (t := 3) ?_; intro gb206 hg w121 hbox hb; have BK206 := A0_ (hbox); have GW206 := zG hg HB; have GE206 := zG hg HB; replace HB := zB HB hb; have NB204_206 := zL hg BK204; have NB206_204 := zM hg BK204; replace BK204 := zK BK204 hb; have NB205_206 := zL hg BK205; have NB206_205 := zM hg BK205; replace BK205 := zK BK205 hb; clear hb hbox hg) | ((with_reducible refine gD (N := 7) rfl ?_); refine zX (N := 7) (cs := #[.int .i64 a3]) (t := 3) ?_; intro gb207 hg w122 hbox hb; have BK207 := A0_ (hbox); have GW207 := zG hg HB; have GE207 := zG hg HB; replace HB := zB HB hb; have NB204_207 := zL hg BK204; have NB207_204 := zM hg BK204; replace BK204 := zK BK204 hb; have NB205_207 := zL hg BK205; have NB207_205 := zM hg BK205; replace BK205 := zK BK205 hb; have NB206_207 := zL hg BK206; have NB207_206 := zM hg BK206; replace BK206 := zK BK206 hb; clear hb hbox hg; have hnb123 := NB204_205.out; have hnc123 := NB205_204.out; have hnb124 := NB204_206.out; have hnc124 := NB206_204.out; have hnb125 := NB204_207.out; have hnc125 := NB207_204.out; have hcz126_0 := zc0 BK204; have hcz126_1 := zc1 BK204; have hfz126_0 := kF BK204.out 0; have hfz126_1 := kF BK204.out 1) | ((with_reducible refine gC (f := 24) rfl ?_); refine zJ (some 11) Tryz.func24 #[.agg #[.slice A0_0 l0_0.length c0_0, .slice A0_1 l0_1.length c0_1]] ?_; (with_reducible refine (impl_MapValid.calls k (fun k_ => k_ < w.heap.size) _ _ l0_0 (fun k_ => k_ < w.heap.size) _ _ l0_1 false _ ?side1 ?side2 A5.out).mono ?_); (case side1 => exact Kd.V_mk HC0_0.out (Kd.F_below (Kd.C_F (Kd.heap_int .i64) HR0_0.out) (zB_ HB))); (case side2 => exact Kd.V_mk HC0_1.out (Kd.F_below (Kd.C_F (Kd.heap_int .i64) HR0_1.out) (zB_ HB))); rintro e w127 ⟨rfl, hb⟩; refine ⟨_, rfl, ?_⟩; replace BK204 := zK BK204 hb; replace BK205 := zK BK205 hb; replace BK206 := zK BK206 hb; replace BK207 := zK BK207 hb; replace HB := zB HB hb; (try clear hb)))
 go_ret
 exact ⟨by first | rfl | (simp [*] <;> rfl), zB_ HB⟩

/-! ### impl_numberOf: function 65 -/
mutual
def impl_numberOf.j0 : Nat → ByteArray → Bool → Option (Int)
  | 0, _, _ => none
  | k + 1, x0, x12 => if x12 = true then (some (-1)) else (impl_numberOf.l0 k x0 0 (x0.size : Int) 0)
def impl_numberOf.l0 : Nat → ByteArray → Int → Int → Int → Option (Int)
  | 0, _, _, _, _ => none
  | k + 1, x0, x3, x14, x15 => if x15 < x14 then (if 0 ≤ x15 then (if x15 < (x0.size : Int) then (if (bt x0 x15) < 48 then (some (-1)) else (if (bt x0 x15) > 57 then (some (-1)) else (impl_numberOf.l0 k x0 (wrap64 ((wrap64 (x3 * 10)) + (((bt x0 x15) - 48) % 256))) x14 (wrap64 (x15 + 1))))) else (none)) else (none)) else (some x3)
end
def impl_numberOf.f (k : Nat) (a0 : ByteArray) : Option (Int) := if (a0.size : Int) < 1 then (impl_numberOf.j0 k a0 true) else (impl_numberOf.j0 k a0 (decide ((a0.size : Int) > 2)))
set_option maxHeartbeats 8000000 in
set_option maxRecDepth 100000 in
theorem impl_numberOf.calls (k : Nat) (a0 : ByteArray) (r : Int) (w : World) (h : impl_numberOf.f k a0 = some r) :
    Calls Tryz.prog 65 #[.string a0] w fun e w' => e = .returned (.int .i64 r) ∧ Drawn0 w w' := by
 have H : (if (a0.size : Int) < 1 then (impl_numberOf.j0 k a0 true) else (impl_numberOf.j0 k a0 (decide ((a0.size : Int) > 2)))) = some r := h
 clear h; have HC2 := A0_ H; clear H
 go_enter Tryz.func65, Tryz.ntmps65
 go_upto_region 1 with (fail)
 go_cut [12] (fun v12 wc => ∃ (kq : Nat) (x12_1 : Bool), v12 = .bool x12_1 ∧ Aside0 (impl_numberOf.j0 kq a0 x12_1 = some r) ∧ Aside0 (kq ≤ k) ∧ Drawn0 w wc)
 case first =>
  have H := HC2.out; clear HC2
  by_cases c3 : (a0.size : Int) < 1
  ·rw [if_pos c3] at H
   have c3b0 := dT c3
   have c3b1 : decide (a0.size < 1) = true := dT (by omega)
   clear c3
   (first | rw [c3b0] | (simp only [i64_w, i32_w]; rw [c3b0]) | skip)
   have H' := A0_ H; clear H
   go_wp2
   go_meet
   case rel => exact ⟨_, (true), zt, H', zo, by repeat (first | exact Drawn0.refl _ | apply Drawn0.step)⟩
  rw [if_neg c3] at H; have c3b0 := dF c3
  have c3b1 : decide (a0.size < 1) = false := dF (by omega)
  clear c3
  (first | rw [c3b0] | (simp only [i64_w, i32_w]; rw [c3b0]) | skip)
  have H' := A0_ H; clear H
  go_wp2
  go_meet
  case rel => exact ⟨_, (decide ((a0.size : Int) > 2)), zt, H', zo, by repeat (first | exact Drawn0.refl _ | apply Drawn0.step)⟩
 case rest =>
  clear HC2; (try clear p2); (try clear c3); (try clear c3b0); (try clear c3b1); obtain ⟨kq, x12_1, rfl, HA, HJ1, ⟨mc1, rfl⟩⟩ := hcut
  cases kq with
  | zero => exact absurd HA.out (by simp [impl_numberOf.j0])
  | succ kj1 =>
   have H := HA.out; clear HA; simp only [impl_numberOf.j0] at H
   by_cases c4 : x12_1 = true
   ·subst c4
    rw [if_pos rfl] at H; obtain rfl := sI H
    go_wp2
    go_ret
    exact ⟨by first | rfl | (simp; done) | (simp [*]; done), by repeat (first | exact Drawn0.refl _ | apply Drawn0.step)⟩
   replace c4 := Bool.eq_false_iff.mpr c4; subst c4
   rw [if_neg (show ¬ (false = true) by decide)] at H
   have H' := A0_ H; clear H
   go_wp2
   go_loopg [3, 15] kj1 (fun kq v3 v15 w' => ∃ (x3_2 : Int) (x15_2 : Int), v3 = .int .i64 x3_2 ∧ v15 = .int .i64 x15_2 ∧ Aside0 (impl_numberOf.l0 kq a0 x3_2 (a0.size : Int) x15_2 = some r) ∧ Aside0 (kq ≤ kj1) ∧ Drawn0 w w')
   case atStart => exact ⟨(0), (0), zt, zt, H', ⟨Nat.le_refl _⟩, by repeat (first | exact Drawn0.refl _ | apply Drawn0.step)⟩
   case round =>
    clear H'; (try clear c1); (try clear p2); (try clear c3); (try clear c3b0); (try clear c3b1); (try clear c4); (try clear p2); obtain ⟨x3_2, x15_2, rfl, rfl, HA, HK2, ⟨m2, rfl⟩⟩ := hrel
    cases gk with
    | zero => exact absurd HA.out (by simp [impl_numberOf.l0])
    | succ k2 =>
     have H := HA.out; clear HA; simp only [impl_numberOf.l0] at H
     by_cases c5 : x15_2 < (a0.size : Int)
     ·rw [if_pos c5] at H
      have c5b0 := dT c5; clear c5
      by_cases c6 : 0 ≤ x15_2
      ·rw [if_pos c6] at H
       have c6b0 := dT c6; clear c6
       by_cases c7 : x15_2 < (a0.size : Int)
       ·rw [if_pos c7] at H
        have c7b0 := dT c7; clear c7
        by_cases c9 : (bt a0 x15_2) < 48
        ·rw [if_pos c9] at H
         have c9b0 := dT c9; clear c9; obtain rfl := sI H
         have p8 : 0 ≤ (x15_2 : Int) := zd
         have q8 : x15_2 < (a0.size : Int) := zd
         have hx8 := bt_at a0 x15_2; replace p8 := eq_true p8; replace q8 := eq_true q8
         go_wp2
         go_ret
         exact ⟨by first | rfl | (simp; done) | (simp [*]; done), by repeat (first | exact Drawn0.refl _ | apply Drawn0.step)⟩
        rw [if_neg c9] at H; have c9b0 := dF c9; clear c9
        by_cases c11 : (bt a0 x15_2) > 57
        ·rw [if_pos c11] at H
         have c11b0 : decide (57 < (bt a0 x15_2)) = true := dT c11
         clear c11; obtain rfl := sI H
         have p8 : 0 ≤ (x15_2 : Int) := zd
         have q8 : x15_2 < (a0.size : Int) := zd
         have hx8 := bt_at a0 x15_2; replace p8 := eq_true p8; replace q8 := eq_true q8
         have p10 : 0 ≤ (x15_2 : Int) := zd
         have q10 : x15_2 < (a0.size : Int) := zd
         have hx10 := bt_at a0 x15_2; replace p10 := eq_true p10; replace q10 := eq_true q10
         go_wp2
         go_ret
         exact ⟨by first | rfl | (simp; done) | (simp [*]; done), by repeat (first | exact Drawn0.refl _ | apply Drawn0.step)⟩
        rw [if_neg c11] at H
        have c11b0 : decide (57 < (bt a0 x15_2)) = false := dF c11
        clear c11; have H' := A0_ H; clear H
        have p8 : 0 ≤ (x15_2 : Int) := zd
        have q8 : x15_2 < (a0.size : Int) := zd
        have hx8 := bt_at a0 x15_2; replace p8 := eq_true p8; replace q8 := eq_true q8
        have p10 : 0 ≤ (x15_2 : Int) := zd
        have q10 : x15_2 < (a0.size : Int) := zd
        have hx10 := bt_at a0 x15_2; replace p10 := eq_true p10; replace q10 := eq_true q10
        have p12 : 0 ≤ (x15_2 : Int) := zd
        have q12 : x15_2 < (a0.size : Int) := zd
        have hx12 := bt_at a0 x15_2; replace p12 := eq_true p12; replace q12 := eq_true q12
        go_wp2
        go_roundg k2
        case measure => have := HJ1.out; have := HK2.out; omega
        case rel => exact ⟨(wrap64 ((wrap64 (x3_2 * 10)) + (((bt a0 x15_2) - 48) % 256))), (wrap64 (x15_2 + 1)), zt, zt, H', ⟨by have := HJ1.out; have := HK2.out; omega⟩, by repeat (first | exact Drawn0.refl _ | apply Drawn0.step)⟩
       rw [if_neg c7] at H
       exact absurd H (by simp)
      rw [if_neg c6] at H
      exact absurd H (by simp)
     rw [if_neg c5] at H; have c5b0 := dF c5; clear c5; obtain rfl := sI H
     go_wp2
     go_ret
     exact ⟨by first | rfl | (simp; done) | (simp [*]; done), by repeat (first | exact Drawn0.refl _ | apply Drawn0.step)⟩

/-! ### strings_Split: function 32 -/
def strings_Split.f (a0 a1 : ByteArray) : Option (List ByteArray) := if a1 = ⟨#[44]⟩ ∧ a0.size ≤ 1000000 then some (Lib.splitB ⟨#[44]⟩ 0 (Lib.countB a0 ⟨#[44]⟩) a0) else none
theorem strings_Split.calls (a0 a1 : ByteArray) (r : List ByteArray) (w : World) (h : strings_Split.f a0 a1 = some r) : Calls Tryz.prog 32 #[.string a0, .string a1] w fun e w' => ∃ v0_ : Value, e = .returned (v0_) ∧ Kd.R Kd.string 9 w' w.heap.size (fun _ => True) v0_ r ∧ Below w.heap.size w w' := by
  unfold strings_Split.f at h
  split at h
  · rename_i hc
    obtain ⟨rfl, hs⟩ := hc
    have hl := Lib.splitB_all ⟨#[44]⟩ (Nat.le_refl 1) 0 _ a0 rfl
    have hb := Lib.countB_le ⟨#[44]⟩ (Nat.le_refl 1) a0.size a0 (Nat.le_refl _)
    obtain rfl := sI h
    refine (XS.split1 a0 44 w (by omega)).mono ?_
    rintro e w' ⟨rfl, rfl⟩
    refine ⟨_, rfl, Kd.R_of_own (enc := Value.string) ⟨?_, .inr ⟨w.heap.size, Lib.countB a0 ⟨#[44]⟩ + 1, _, ?_, Nat.le_refl _, heap_alloc_new _ _, ?_, ?_, ?_, ?_⟩⟩ (fun _ _ => trivial), (Below.refl _ _).alloc (Nat.le_refl _) _⟩
    · simp [encs]
    · rw [hl]
    · omega
    · unfold maxLen; omega
    · simp [hl]
    simp [encs, hl]
    exact List.take_of_length_le (by simp [hl])
  cases h


/-! ### impl_PermText: function 37 -/
def impl_PermText.sg (i : Int) : ByteArray := if i = 0 then ⟨#[40]⟩ else ⟨#[44]⟩
def impl_PermText.dg (n : Int) : ByteArray := ⟨(Lib.decDigits n.toNat).toArray⟩
def impl_PermText.inner : Int → List Int → Option ByteArray
  | _, [] => some ⟨#[]⟩
  | i, n :: c => if 0 ≤ n ∧ n < 100 then (impl_PermText.inner (i + 1) c).bind fun t => some ((impl_PermText.sg i ++ impl_PermText.dg n) ++ t) else none
def impl_PermText.outer : List (List Int) → Option ByteArray
  | [] => some ⟨#[]⟩
  | c :: cs => if c.length < 2 then impl_PermText.outer cs else (impl_PermText.inner 0 c).bind fun t => (impl_PermText.outer cs).bind fun u => some (t ++ (⟨#[41]⟩ ++ u))
def impl_PermText.f (k : Nat) (l0 : List Int) : Option ByteArray := (impl_PermValid.f l0).bind fun ok => (if ok = true then (impl_cyclesOf.f k l0).bind fun cs => (impl_PermText.outer cs).bind fun t => (if t.size ≤ 100000 ∧ cs.length ≤ 1000 ∧ ∀ c ∈ cs, c.length ≤ 1000 then (if t.size = 0 then some ⟨#[40, 41]⟩ else some t) else none) else some ⟨#[]⟩)
theorem impl_PermText.sg_size (i : Int) : (impl_PermText.sg i).size = 1 := by unfold impl_PermText.sg; split <;> rfl
theorem impl_PermText.dg_size (n : Int) (h : n < 100) : (impl_PermText.dg n).size ≤ 2 := XE.digits_size _ (by omega)
theorem impl_PermText.rows_others {w w' : World} {B o : Nat} {v : Value} {xs : List (List Int)} (h : Kd.S (Kd.slice 3 (Kd.int .i64)) 23 w B (fun _ => True) v xs) (ho : ∃ c, w.heap[o]? = some (.cells c 52 (0, 0))) (hk : Lib.OthersKept 5 (some o) w w') : Kd.S (Kd.slice 3 (Kd.int .i64)) 23 w' B (fun _ => True) v xs := by
  obtain ⟨co, ho⟩ := ho
  refine sM (Kd.S_step (Kd.S_bound h) (fun k ⟨_, _, _, q, hq, c, hc⟩ _ => ?_)) (fun _ _ => trivial)
  have hq' : q = 23 ∨ q = 3 := by simpa [Kd.slice, Kd.int, Kd.scalar] using hq
  rw [hk k _ hc ?_ ?_, hc]
  · intro e; obtain rfl := sI e; rw [ho] at hc; rcases hq' with rfl | rfl <;> simp at hc
  intro c' fz e; rcases hq' with rfl | rfl <;> simp at e
theorem impl_PermText.row_at {w : World} {A : Option Addr} {n : Nat} {xs : List (List Int)} (h : Kd.C (Kd.slice 3 (Kd.int .i64)) w A n xs) (i : Int) (h0 : 0 ≤ i) (h1 : i < n) : ∃ ad A0 c0, A = some ad ∧ w.cell? (ad.add i.toNat) = some (.slice A0 (xs.getD i.toNat []).length c0) ∧ (xs.getD i.toNat []).length ≤ c0 ∧ (Kd.int .i64).C w A0 (xs.getD i.toNat []).length (xs.getD i.toNat []) := by
  obtain ⟨ad, c, e, _, hK, hc0⟩ := Kd.C_get h ([] : List Int) i h0 h1
  have hc : ∀ j u, c[j]? = some u → w.cell? (ad.add (i.toNat * 1 + j)) = some u := hc0
  obtain ⟨A0, c0, rfl, l0, g0⟩ := hK
  exact ⟨ad, A0, c0, e, by have hq := hc 0 _ rfl; rwa [Nat.mul_one, Nat.add_zero] at hq, l0, g0⟩
/-- What holds at the head of a round of the outer loop. -/
def impl_PermText.RO (w : World) (B b : Nat) (v : Value) (cs : List (List Int)) (fin : ByteArray) (i : Int) (wr : World) : Prop :=
  0 ≤ i ∧ i ≤ cs.length ∧ ∃ o rest, impl_PermText.outer (cs.drop i.toNat) = some rest ∧ o ++ rest = fin ∧ Lib.IsBuilder 52 5 B b (Lib.strCells o) wr ∧ Kd.S (Kd.slice 3 (Kd.int .i64)) 23 wr b (fun _ => True) v cs ∧ Below w.heap.size w wr
def impl_PermText.RI (w : World) (B b : Nat) (v : Value) (cs : List (List Int)) (fin : ByteArray) (c : List Int) (rest : ByteArray) (p : Addr) (u : Value) (x : Int) (wr : World) : Prop :=
  wr.cell? p = some u ∧ 0 ≤ x ∧ x ≤ c.length ∧ ∃ o t, impl_PermText.inner x (c.drop x.toNat) = some t ∧ o ++ (t ++ (⟨#[41]⟩ ++ rest)) = fin ∧ Lib.IsBuilder 52 5 B b (Lib.strCells o) wr ∧ Kd.S (Kd.slice 3 (Kd.int .i64)) 23 wr b (fun _ => True) v cs ∧ Below w.heap.size w wr
theorem impl_PermText.outer_step {cs : List (List Int)} {i : Int} (h0 : 0 ≤ i) (h1 : i < cs.length) {rest : ByteArray} (h : impl_PermText.outer (cs.drop i.toNat) = some rest) :
    ((cs.getD i.toNat []).length < 2 ∧ impl_PermText.outer (cs.drop (i + 1).toNat) = some rest) ∨ (¬ (cs.getD i.toNat []).length < 2 ∧ ∃ t u, impl_PermText.inner 0 (cs.getD i.toNat []) = some t ∧ impl_PermText.outer (cs.drop (i + 1).toNat) = some u ∧ rest = t ++ (⟨#[41]⟩ ++ u)) := by
  have hi : i.toNat < cs.length := by omega
  rw [List.drop_eq_getElem_cons hi, show i.toNat + 1 = (i + 1).toNat by omega] at h
  have e : cs.getD i.toNat [] = cs[i.toNat] := by simp [List.getD, hi]
  rw [e]
  simp only [impl_PermText.outer] at h
  split at h
  · rename_i hl; exact .inl ⟨hl, h⟩
  rename_i hl
  obtain ⟨t, h1, h⟩ := Option.bind_eq_some_iff.1 h; obtain ⟨u, h2, h⟩ := Option.bind_eq_some_iff.1 h
  exact .inr ⟨hl, t, u, h1, h2, (sI h).symm⟩
theorem impl_PermText.inner_step {c : List Int} {x : Int} (h0 : 0 ≤ x) (h1 : x < c.length) {t : ByteArray} (h : impl_PermText.inner x (c.drop x.toNat) = some t) :
    0 ≤ rd c x ∧ rd c x < 100 ∧ ∃ u, impl_PermText.inner (x + 1) (c.drop (x + 1).toNat) = some u ∧ t = (impl_PermText.sg x ++ impl_PermText.dg (rd c x)) ++ u := by
  have hi : x.toNat < c.length := by omega
  rw [List.drop_eq_getElem_cons hi, show x.toNat + 1 = (x + 1).toNat by omega] at h
  have e : rd c x = c[x.toNat] := by simp [rd, List.getD, hi]
  simp only [impl_PermText.inner] at h
  rw [← e] at h
  split at h
  · rename_i hl
    obtain ⟨u, h2, h⟩ := Option.bind_eq_some_iff.1 h
    exact ⟨hl.1, hl.2, u, h2, (sI h).symm⟩
  cases h
theorem impl_PermText.cell_others {w w' : World} {B o n cc : Nat} {ad : Addr} {xs : List (List Int)} (h : Kd.S (Kd.slice 3 (Kd.int .i64)) 23 w B (fun _ => True) (.slice (some ad) n cc) xs) (hk : Lib.OthersKept 5 (some o) w w') (ho : ∃ c, w.heap[o]? = some (.cells c 52 (0, 0))) (j : Nat) : w'.cell? (ad.add j) = w.cell? (ad.add j) := by
  obtain ⟨co, ho⟩ := ho
  obtain ⟨g, rfl⟩ := Kd.R_head (Kd.S_R h)
  obtain ⟨c, hc⟩ := Kd.S_typed h g rfl
  rw [show (⟨g, 0, none⟩ : Addr).add j = ⟨g, j, none⟩ by simp [Addr.add] <;> exact fun h => h.symm]
  refine World.cell?_of_block ?_
  show w'.heap[g]? = w.heap[g]?
  refine (hk g _ hc ?_ ?_).trans hc.symm
  · intro e; obtain rfl := sI e; rw [ho] at hc; simp at hc
  intro c' fz e; simp at e
theorem impl_PermText.inner_nil (x : Int) : impl_PermText.inner x [] = some ⟨#[]⟩ := by unfold impl_PermText.inner; rfl
theorem impl_PermText.nil_app (x : ByteArray) : (⟨#[]⟩ : ByteArray) ++ x = x := by
  show ByteArray.empty ++ x = x
  simp
theorem impl_PermText.app_nil (x : ByteArray) : x ++ (⟨#[]⟩ : ByteArray) = x := by
  show x ++ ByteArray.empty = x
  simp
set_option maxHeartbeats 8000000 in
set_option maxRecDepth 100000 in
theorem impl_PermText.calls (k : Nat) (A0 : Option Addr) (c0 : Nat) (l0 : List Int) (r : ByteArray) (w : World) (hr0 : Kd.C (Kd.int .i64) w A0 l0.length l0) (hc0 : l0.length ≤ c0) (h : impl_PermText.f k l0 = some r) :
    Calls Tryz.prog 37 #[.slice A0 l0.length c0] w fun e w' => e = .returned (.string r) ∧ Below w.heap.size w w' := by
  unfold impl_PermText.f at h
  obtain ⟨ok, h1, hq⟩ := Option.bind_eq_some_iff.1 h; clear h
  have H1 := Lib.hid h1; clear h1
  have HR := A0_ hr0; have HC := A0_ hc0; clear hr0 hc0
  cases ok with
  | false =>
    obtain rfl : (⟨#[]⟩ : ByteArray) = r := by simpa using hq
    clear hq
    go_enter Tryz.func37, Tryz.ntmps37
    go_wp2_with (go_at_call 58; (with_reducible refine (impl_PermValid.calls A0 c0 l0 false _ HR.out HC.out H1.out).mono ?_); rintro e w1 ⟨rfl, hb1⟩)
    go_ret
    exact ⟨rfl, hb1⟩
  | true =>
    rw [if_pos rfl] at hq; obtain ⟨cs, h2, hs⟩ := Option.bind_eq_some_iff.1 hq; clear hq; obtain ⟨t, h3, h⟩ := Option.bind_eq_some_iff.1 hs; clear hs
    have hg : t.size ≤ 100000 ∧ cs.length ≤ 1000 ∧ ∀ c ∈ cs, c.length ≤ 1000 := by
      by_cases hg : t.size ≤ 100000 ∧ cs.length ≤ 1000 ∧ ∀ c ∈ cs, c.length ≤ 1000
      · exact hg
      rw [if_neg hg] at h; cases h
    rw [if_pos hg] at h; obtain ⟨hts, hcl, hcc⟩ := hg
    have HCC := A0_ hcc; clear hcc
    have H2 := Lib.hid h2; clear h2
    have H3 := Lib.hid h3; clear h3
    have HH := A0_ h; clear h
    go_enter Tryz.func37, Tryz.ntmps37
    go_wp2_with (first
      | (go_at_call 58; (with_reducible refine (impl_PermValid.calls A0 c0 l0 true _ HR.out HC.out H1.out).mono ?_); rintro e w1 ⟨rfl, hb1⟩)
      | (go_at_call 81; (with_reducible refine (impl_cyclesOf.calls k A0 c0 l0 cs _ (cA (cB HR.out hb1) _) HC.out H2.out).mono ?_); rintro e w3 ⟨v0, rfl, hS, hb3⟩; obtain ⟨A, cc, rfl⟩ := Kd.S_slice hS))
    have hz1 : (w1.alloc (.cells #[.pointer none, .slice none 0 0] 52)).heap.size = w1.heap.size + 1 := by simp
    have hbk : w3.heap[w1.heap.size]? = some (.cells #[.pointer none, .slice none 0 0] 52 (0, 0)) := (hb3.block _ (by rw [hz1]; omega)).trans (heap_alloc_new _ _)
    have RS : impl_PermText.RO w w.heap.size w1.heap.size (.slice A cs.length cc) cs t 0 w3 := by
      refine ⟨Int.le_refl _, by omega, ⟨#[]⟩, t, by simpa using H3.out, impl_PermText.nil_app t, .inl ⟨hb1.size, _, hbk, World.ownsRow_nil _ _ _ _, by simp [Value.ownBlock]⟩, Kd.S_lower hS (by rw [hz1]; omega), ?_⟩
      exact (hb1.alloc hb1.size _).trans (hb3.mono (by rw [hz1]; have := hb1.size; omega))
    clear hS hbk; have hz0 := hb1.size; clear hb3 hz1 hb1
    go_loopw [15] (fun i wr => ∃ x : Int, i = .int .i64 x ∧ impl_PermText.RO w w.heap.size w1.heap.size (.slice A cs.length cc) cs t x wr) (fun i _ => cs.length - (RowKit.intOf i).toNat)
    case atStart => exact ⟨0, rfl, RS⟩
    case round =>
      clear RS; obtain ⟨x, rfl, x0, x1, o, rest, g1, g2, g3, g4, g5⟩ := hrel
      have G1 := Lib.hid g1; clear g1
      have G2 := Lib.hid g2; clear g2
      by_cases hlt : x < cs.length
      · obtain ⟨-, hcap, hC⟩ := Kd.S_reads' g4
        obtain ⟨ad, A1, c1, ea, hx, hl1, hC1⟩ := impl_PermText.row_at hC x x0 hlt; subst ea
        have hos := impl_PermText.outer_step x0 hlt G1.out
        have hcm : (cs.getD x.toNat []).length ≤ 1000 := HCC.out _ (by rw [List.getD_eq_getElem?_getD, List.getElem?_eq_getElem (by omega)]; exact List.getElem_mem _)
        obtain ⟨c, hce⟩ : ∃ c, cs.getD x.toNat [] = c := ⟨_, rfl⟩
        rw [hce] at hx hl1 hC1 hos hcm
        have HCE := Lib.hid hce; clear hce
        have HC1 := A0_ hC1; clear hC1 hC
        have p1 := eq_true x0; have p2 := eq_true hlt
        rcases hos with ⟨hl, g⟩ | ⟨hl, tt, u, gi, gu, ge⟩
        · have HG := Lib.hid g; clear g
          go_wp2
          go_roundw
          case rel => exact ⟨x + 1, by go_num, by omega, by omega, o, rest, HG.out, G2.out, g3, g4, g5⟩
          case measure => simp [RowKit.intOf]; omega
        have HGI := Lib.hid gi; clear gi
        have HGU := Lib.hid gu; clear gu
        have RI0 : impl_PermText.RI w w.heap.size w1.heap.size (.slice (some ad) cs.length cc) cs t c u (ad.add x.toNat) (.slice A1 c.length c1) 0 wr := ⟨hx, Int.le_refl _, by omega, o, tt, by simpa using HGI.out, by rw [← ge]; exact G2.out, g3, g4, g5⟩
        clear ge HGI G2 g3 g4 g5
        go_wp2
        clear hx HC1 p1 p2
        go_loopw [24] (fun i wq => ∃ y : Int, i = .int .i64 y ∧ impl_PermText.RI w w.heap.size w1.heap.size (.slice (some ad) cs.length cc) cs t c u (ad.add x.toNat) (.slice A1 c.length c1) y wq) (fun i _ => c.length - (RowKit.intOf i).toNat)
        case atStart => exact ⟨0, rfl, RI0⟩
        case round =>
          clear RI0; obtain ⟨y, rfl, hx, y0, y1, o2, t2, k1, k2, k3, k4, k5⟩ := hrel
          have K1 := Lib.hid k1; clear k1
          have K2 := Lib.hid k2; clear k2
          have hsz : (o2 ++ (t2 ++ (⟨#[41]⟩ ++ u))).size ≤ 100000 := by rw [K2.out]; exact hts
          rw [ByteArray.size_append, ByteArray.size_append, ByteArray.size_append, show (⟨#[41]⟩ : ByteArray).size = 1 from rfl] at hsz
          by_cases hly : y < c.length
          · obtain ⟨n0, n1, u2, hu2, he2⟩ := impl_PermText.inner_step y0 hly K1.out
            have hC2 := (Kd.S_reads' k4).2.2
            obtain ⟨ad', A2, c2, ea2, hx2, _, hC3⟩ := impl_PermText.row_at hC2 x x0 hlt
            cases ea2
            rw [HCE.out] at hx2 hC3
            have eA : A2 = A1 ∧ c2 = c1 := by rw [hx] at hx2; simp at hx2; exact ⟨hx2.1.symm, hx2.2.symm⟩
            obtain ⟨rfl, rfl⟩ := eA; clear hx2 hC2; obtain ⟨ae, e1, hxe⟩ := tI hC3 y y0 hly
            cases e1
            clear hC3
            obtain ⟨m, hm⟩ : ∃ m : Nat, rd c y = m := ⟨(rd c y).toNat, by omega⟩
            rw [hm] at hxe n1 he2
            have hm1 : m < 100 := by omega
            have hdm : impl_PermText.dg (m : Int) = ⟨(Lib.decDigits m).toArray⟩ := by unfold impl_PermText.dg; simp
            obtain ⟨dm, hdm2⟩ : ∃ dm : ByteArray, (⟨(Lib.decDigits m).toArray⟩ : ByteArray) = dm := ⟨_, rfl⟩
            have hds : dm.size ≤ 2 := by rw [← hdm2]; exact XE.digits_size m hm1
            have hit : ∀ w, Calls Tryz.prog 35 #[.int .i64 (m : Int)] w fun e w' => e = .returned (.string dm) ∧ w' = w := by intro w; rw [← hdm2]; exact XS.itoa_small m hm1 w
            rw [hdm, hdm2] at he2
            have HM := Lib.hid hm; clear hm hdm hdm2 n0 n1
            have HU2 := Lib.hid hu2; clear hu2
            have hz2 : t2.size = 1 + dm.size + u2.size := by rw [he2, ByteArray.size_append, ByteArray.size_append, impl_PermText.sg_size]
            have KE : Hid ((o2 ++ (impl_PermText.sg y ++ dm)) ++ (u2 ++ (⟨#[41]⟩ ++ u)) = t) := by
              have := K2.out
              rw [he2] at this
              rw [← this]
              show _ = _
              simp only [ByteArray.append_assoc]
            clear he2
            have hw2 := XE.Builder_ws k3 (impl_PermText.sg y ++ dm) (by rw [Lib.strCells_length, ByteArray.size_append, impl_PermText.sg_size]; omega) k5.size
            have hblk := XE.is_block k3; have p1 := eq_true y0; have p2 := eq_true hly
            have hws : (impl_PermText.sg y ++ dm).size ≤ 3 := by rw [ByteArray.size_append, impl_PermText.sg_size]; omega
            by_cases hy : y = 0
            · have hb1 : (y == 0) = true := by simp [hy]
              have hb2 : decide (y = 0) = true := by simp [hy]
              have hsg : impl_PermText.sg y = ⟨#[40]⟩ := by unfold impl_PermText.sg; rw [if_pos hy]
              rw [hsg] at hw2 KE hws
              clear hsg
              have HYB := Lib.hid hy; clear hy
              go_wp2_with (first
                | (go_at_call 35; (with_reducible refine (hit _).mono ?_); rintro e w' ⟨rfl, rfl⟩)
                | (go_at_call 33; (with_reducible refine hw2.mono ?_); rintro e w4 ⟨rfl, b4, B4, q4⟩))
              go_roundw
              case rel => exact ⟨y + 1, by go_num, (impl_PermText.cell_others k4 q4 hblk _).trans hx, by omega, by omega, o2 ++ (⟨#[40]⟩ ++ dm), u2, HU2.out, KE.out, b4, impl_PermText.rows_others k4 hblk q4, k5.trans B4⟩
              case measure => simp [RowKit.intOf]; omega
            have hb1 : (y == 0) = false := by simp [hy]
            have hb2 : decide (y = 0) = false := by simp [hy]
            have hsg : impl_PermText.sg y = ⟨#[44]⟩ := by unfold impl_PermText.sg; rw [if_neg hy]
            rw [hsg] at hw2 KE hws
            clear hsg
            have HYB := Lib.hid hy; clear hy
            go_wp2_with (first
              | (go_at_call 35; (with_reducible refine (hit _).mono ?_); rintro e w' ⟨rfl, rfl⟩)
              | (go_at_call 33; (with_reducible refine hw2.mono ?_); rintro e w4 ⟨rfl, b4, B4, q4⟩))
            go_roundw
            case rel => exact ⟨y + 1, by go_num, (impl_PermText.cell_others k4 q4 hblk _).trans hx, by omega, by omega, o2 ++ (⟨#[44]⟩ ++ dm), u2, HU2.out, KE.out, b4, impl_PermText.rows_others k4 hblk q4, k5.trans B4⟩
            case measure => simp [RowKit.intOf]; omega
          have hnil : c.drop y.toNat = [] := List.drop_eq_nil_of_le (by omega)
          have ht2 : t2 = ⟨#[]⟩ := by
            have := K1.out
            rw [hnil, impl_PermText.inner_nil] at this
            exact (sI this).symm
          have KE : Hid ((o2 ++ ⟨#[41]⟩) ++ u = t) := by
            have := K2.out
            rw [ht2, impl_PermText.nil_app] at this
            rw [← this]
            show _ = _
            simp only [ByteArray.append_assoc]
          clear hnil ht2
          have hw2 := XE.Builder_ws k3 ⟨#[41]⟩ (by rw [Lib.strCells_length, show (⟨#[41]⟩ : ByteArray).size = 1 from rfl]; omega) k5.size
          have hblk := XE.is_block k3
          go_wp2_with (go_at_call 33; (with_reducible refine hw2.mono ?_); rintro e w4 ⟨rfl, b4, B4, q4⟩)
          go_roundw
          case rel => exact ⟨x + 1, by go_num, by omega, by omega, o2 ++ ⟨#[41]⟩, u, HGU.out, KE.out, b4, impl_PermText.rows_others k4 hblk q4, k5.trans B4⟩
          case measure => simp [RowKit.intOf]; omega
      have hnil : cs.drop x.toNat = [] := List.drop_eq_nil_of_le (by omega)
      have hrest : rest = ⟨#[]⟩ := by
        have := G1.out
        rw [hnil] at this
        exact (sI this).symm
      have hot : o = t := by
        have := G2.out
        rw [hrest, impl_PermText.app_nil] at this
        exact this
      subst hot; clear hnil hrest G2 G1; have hlen := XS.blen _ _ _ _ g3
      by_cases hz : o.size = 0
      · have hr : (⟨#[40, 41]⟩ : ByteArray) = r := by have := HH.out; rw [if_pos hz] at this; exact sI this
        subst hr; rw [hz] at hlen
        have HZ := Lib.hid hz; clear hz
        go_wp2_with (go_at_call 82; (with_reducible refine hlen.mono ?_); rintro e w' ⟨rfl, rfl⟩)
        go_ret
        exact ⟨rfl, g5⟩
      have hr : o = r := by have := HH.out; rw [if_neg hz] at this; exact sI this
      have hb1 : ((o.size : Int) == 0) = false := by rw [beq_eq_false_iff_ne]; omega
      have hb2 : decide ((o.size : Int) = 0) = false := dF (by omega)
      have HZ := Lib.hid hz; clear hz
      subst hr
      have hstr := XS.bstring _ _ _ _ g3 g5.size
      go_wp2_with (first
        | (go_at_call 82; (with_reducible refine hlen.mono ?_); rintro e w' ⟨rfl, rfl⟩)
        | (go_at_call 36; (with_reducible refine hstr.mono ?_); rintro e w4 ⟨rfl, B4⟩))
      go_ret
      exact ⟨rfl, g5.trans B4⟩


/-! ### strings_CutPrefix: function 101 -/
def strings_CutPrefix.f (a0 a1 : ByteArray) : Option (ByteArray × Bool) := some (⟨(Lib.trimPrefix a0.data.toList a1.data.toList).toArray⟩, Lib.hasPrefix a0.data.toList a1.data.toList)
theorem strings_CutPrefix.calls (a0 a1 : ByteArray) (r1 : ByteArray) (r2 : Bool) (w : World) (h : strings_CutPrefix.f a0 a1 = some (r1, r2)) : Calls Tryz.prog 101 #[.string a0, .string a1] w fun e w' => e = .returned (.tuple #[.string r1, .bool r2]) ∧ Drawn0 w w' := by
  unfold strings_CutPrefix.f at h
  simp only [Option.some.injEq, Prod.mk.injEq] at h
  obtain ⟨rfl, rfl⟩ := h
  refine (XS.cutpre a0 a1 w).mono ?_
  rintro e w' ⟨rfl, rfl⟩
  exact ⟨rfl, Drawn0.refl _⟩


/-! ### strings_Cut: function 102 -/
def strings_Cut.f (a0 a1 : ByteArray) : Option (ByteArray × ByteArray × Bool) := if a1 = ⟨#[41]⟩ ∧ a0.size ≤ 1000000 then some (⟨(Lib.cut a0.data.toList [41]).1.toArray⟩, ⟨(Lib.cut a0.data.toList [41]).2.1.toArray⟩, (Lib.cut a0.data.toList [41]).2.2) else none
theorem strings_Cut.calls (a0 a1 : ByteArray) (r1 r2 : ByteArray) (r3 : Bool) (w : World) (h : strings_Cut.f a0 a1 = some (r1, r2, r3)) : Calls Tryz.prog 102 #[.string a0, .string a1] w fun e w' => e = .returned (.tuple #[.string r1, .string r2, .bool r3]) ∧ Drawn0 w w' := by
  unfold strings_Cut.f at h
  split at h
  · rename_i hc
    obtain ⟨rfl, hs⟩ := hc
    simp only [Option.some.injEq, Prod.mk.injEq] at h
    obtain ⟨rfl, rfl, rfl⟩ := h
    refine (XS.cut1 a0 41 w hs).mono ?_
    rintro e w' ⟨rfl, n, rfl⟩
    exact ⟨rfl, (Drawn0.refl _).step n⟩
  cases h


/-! ### strconv_Atoi: function 103 -/
def strconv_Atoi.f (a0 : ByteArray) : Option (Int × Option Int) := if a0.size ≤ 18 then (Lib.atoi a0.data.toList).bind fun n => some (n, none) else none
theorem strconv_Atoi.calls (a0 : ByteArray) (r1 : Int) (r2 : Option Int) (w : World) (h : strconv_Atoi.f a0 = some (r1, r2)) : Calls Tryz.prog 103 #[.string a0] w fun e w' => e = .returned (.tuple #[.int .i64 r1, errW r2]) ∧ Below w.heap.size w w' := by
  unfold strconv_Atoi.f at h
  split at h
  · rename_i hs
    obtain ⟨n, h1, h⟩ := Option.bind_eq_some_iff.1 h
    simp only [Option.some.injEq, Prod.mk.injEq] at h
    obtain ⟨rfl, rfl⟩ := h
    exact XS.atoi_ok a0 _ hs h1 w
  cases h


end Go.Proofs.YtjebcgbmlbemcaaGreatDoor.PFnExecuteValue
