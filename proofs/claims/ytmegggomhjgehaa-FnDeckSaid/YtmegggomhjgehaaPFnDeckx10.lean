-- Made by a program of this session (wip/tools) out of the loaded program; not trusted: Lean checks it.
import Derived.Test.YtmegggomhjgehaaPFnDeckx0
import Derived.Test.YtmegggomhjgehaaPFnDeckx2
import Derived.Test.YtmegggomhjgehaaPFnDeckx5
import Derived.Test.YtmegggomhjgehaaPFnDeckx6
import Derived.Test.YtmegggomhjgehaaPFnDeckx9
-- packed
namespace Go.Proofs.Ytmegggomhjgehaa.PFnDeck
open Go.RowKit Go.Proofs.YtmegggomhjgehaaW.PrintWords Go.Proofs.YtmegggomhjgehaaW.PrintLast Go.Proofs.YtmegggomhjgehaaW.PrintMore
attribute [local go_sem] max2_int min2_int max_two min_two max_three min_three max_four min_four   -- for this text's walks alone
set_option linter.unusedVariables false
set_option linter.unusedSimpArgs false

/-! ### impl_CoverDeck: function 27 -/
theorem impl_CoverDeck.below_drewN {B : Nat} {a w : World} (h : Below B a w) (m : Nat) : Below B a (w.drewN m) := ⟨h.os, h.tape, h.output, h.size, h.block⟩
def impl_CoverDeck.t0 : Nat → List Int → List (List Int) → Int → Option Bool
  | 0, _, _, _ => none
  | k + 1, p, v, i => if i < (v.length : Int) then (if 0 ≤ i then ((impl_mul.f k p (rd_L1 v i)).bind fun a => ((impl_mul.f k (rd_L1 v i) p).bind fun b => ((slices_Equal_int_int.f k a b).bind fun e => (if e = true then (impl_CoverDeck.t0 k p v (wrap64 (i + 1))) else (some false))))) else none) else (some true)
set_option maxHeartbeats 8000000 in
set_option maxRecDepth 100000 in
theorem impl_CoverDeck.tell (k : Nat) (A : Option Addr) (c : Nat) (p : List Int) (A2 : Option Addr) (c2 : Nat) (v : List (List Int)) (gv gn : Nat) (n : Int) (b : Bool) (w : World)
    (hp : Kd.C (Kd.int .i64) w A p.length p) (hc : p.length ≤ c) (hv : Kd.C (Kd.slice 3 (Kd.int .i64)) w A2 v.length v) (hc2 : v.length ≤ c2)
    (hbv : w.heap[gv]? = some (.cells #[.slice A2 v.length c2] 26 (0, 0))) (hbn : w.heap[gn]? = some (.cells #[.int .i64 n] 3 (0, 0)))
    (h : impl_CoverDeck.t0 k p v 0 = some b) :
    Calls Try.prog 77 #[.slice A p.length c, .pointer (some ⟨gv, 0, none⟩), .pointer (some ⟨gn, 0, none⟩)] w fun e w' => (∃ x, e = .returned x) ∧ w'.heap[gn]? = some (.cells #[.int .i64 (if b = true then wrap64 (n + 1) else n)] 3 (0, 0)) ∧ Kept w w' (fun k_ => k_ = gn) ∧ Below gn w w' := by
 have HP := A0_ hp; have HC := A0_ hc; have HV := A0_ hv; have HC2 := A0_ hc2; have BKv := A0_ hbv; have BKn := A0_ hbn
 have HG := A0_ (Nat.le_of_lt (kL hbn))
 clear hp hc hv hc2 hbv hbn
 have HB := A0_ (Below.refl w.heap.size w)
 have H' := A0_ h; clear h
 have hcz0 := (kC BKv.out 0).trans rfl
 have hcz1 := (kC BKn.out 0).trans rfl
 go_enter Try.func77, Try.ntmps77
 go_wp2
 go_loopg [8] k (fun kq v8 w' => ∃ (x8 : Int), v8 = .int .i64 x8 ∧ Aside0 (impl_CoverDeck.t0 kq p v x8 = some b) ∧ Aside0 (kq ≤ k) ∧ Aside0 (w'.heap[gv]? = some (.cells #[.slice A2 v.length c2] 26 (0, 0))) ∧ Aside0 (w'.heap[gn]? = some (.cells #[.int .i64 n] 3 (0, 0))) ∧ Aside0 (Below w.heap.size w w'))
 case atStart => exact ⟨0, rfl, H', ⟨Nat.le_refl _⟩, ⟨zK_ BKv⟩, ⟨zK_ BKn⟩, ⟨by repeat (first | exact HB.out | apply bA | apply bN | apply bD)⟩⟩
 case round =>
  clear H' BKv BKn HB hcz0 hcz1; obtain ⟨x8, rfl, HA, HK1, BKv, BKn, HB⟩ := hrel
  cases gk with
  | zero => exact absurd HA.out (by simp [impl_CoverDeck.t0])
  | succ k1 =>
   have H := HA.out; clear HA; simp only [impl_CoverDeck.t0] at H
   by_cases c1 : x8 < (v.length : Int)
   · rw [if_pos c1] at H
     have c1b := eq_true c1
     have c0 : 0 ≤ x8 := Classical.byContradiction fun c_ => by rw [if_neg c_] at H; simp at H
     rw [if_pos c0] at H; obtain ⟨a, A1, H⟩ := Option.bind_eq_some_iff.mp H; obtain ⟨b1, A2_, H⟩ := Option.bind_eq_some_iff.mp H; obtain ⟨e, A3, H⟩ := Option.bind_eq_some_iff.mp H
     obtain ⟨ad, Ai, ci, ea, hx, hl, hi⟩ := at_L1 (cB HV.out HB.out) x8 c0 c1
     have HX0 := eq_true c0; clear c0
     subst ea
     cases e
     · rw [if_neg (by decide)] at H
       obtain rfl := sI H
       go_wp2_with (first | ((with_reducible refine gC (f := 69) rfl ?_); refine goesL_ (some 14) rfl rfl Try.func69 (by kernel_rfl) rfl #[.slice A p.length c, .slice Ai (rd_L1 v x8).length ci] rfl (by (try simp only [List.map_toArray, List.map_cons, List.map_nil]); first | done | rfl) ?_; refine (impl_mul.calls k1 _ _ p _ _ (rd_L1 v x8) a _ (cB HP.out HB.out) HC.out hi hl A1).mono ?_; rintro e w10 ⟨v1, rfl, ho1, hb1⟩; refine ⟨_, rfl, ?_⟩; obtain ⟨Ao1, co1, eo1⟩ := rS ho1; subst eo1; have HB1 := A0_ (bT HB.out hb1)) | ((with_reducible refine gC (f := 69) rfl ?_); refine goesL_ (some 17) rfl rfl Try.func69 (by kernel_rfl) rfl #[.slice Ai (rd_L1 v x8).length ci, .slice A p.length c] rfl (by (try simp only [List.map_toArray, List.map_cons, List.map_nil]); first | done | rfl) ?_; refine (impl_mul.calls k1 _ _ (rd_L1 v x8) _ _ p b1 _ (cB hi hb1) hl (cB HP.out HB1.out) HC.out A2_).mono ?_; rintro e w11 ⟨v2, rfl, ho2, hb2⟩; refine ⟨_, rfl, ?_⟩; obtain ⟨Ao2, co2, eo2⟩ := rS ho2; subst eo2; have HB2 := A0_ (bT HB1.out hb2)) | ((with_reducible refine gC (f := 78) rfl ?_); refine goesL_ (some 18) rfl rfl Try.func78 (by kernel_rfl) rfl #[.slice Ao1 a.length co1, .slice Ao2 b1.length co2] rfl (by (try simp only [List.map_toArray, List.map_cons, List.map_nil]); first | done | rfl) ?_; refine (slices_Equal_int_int.calls k1 _ _ a _ _ b1 false _ (rR (rB ho1 hb2)).2.2 (rR ho1).2.1 (rR ho2).2.2 (rR ho2).2.1 A3).mono ?_; rintro e w12 ⟨rfl, ⟨nd, rfl⟩⟩; refine ⟨_, rfl, ?_⟩))
       refine bodyPost_ret (results_none rfl _ _ _) rfl ?_
       exact ⟨⟨_, rfl⟩, by simpa using (kN (kB (kB BKn.out hb1) hb2) nd), Kept.of_below HB2.out _, (impl_CoverDeck.below_drewN HB2.out nd).mono HG.out⟩
     rw [if_pos rfl] at H
     go_wp2_with (first | ((with_reducible refine gC (f := 69) rfl ?_); refine goesL_ (some 14) rfl rfl Try.func69 (by kernel_rfl) rfl #[.slice A p.length c, .slice Ai (rd_L1 v x8).length ci] rfl (by (try simp only [List.map_toArray, List.map_cons, List.map_nil]); first | done | rfl) ?_; refine (impl_mul.calls k1 _ _ p _ _ (rd_L1 v x8) a _ (cB HP.out HB.out) HC.out hi hl A1).mono ?_; rintro e w10 ⟨v1, rfl, ho1, hb1⟩; refine ⟨_, rfl, ?_⟩; obtain ⟨Ao1, co1, eo1⟩ := rS ho1; subst eo1; have HB1 := A0_ (bT HB.out hb1)) | ((with_reducible refine gC (f := 69) rfl ?_); refine goesL_ (some 17) rfl rfl Try.func69 (by kernel_rfl) rfl #[.slice Ai (rd_L1 v x8).length ci, .slice A p.length c] rfl (by (try simp only [List.map_toArray, List.map_cons, List.map_nil]); first | done | rfl) ?_; refine (impl_mul.calls k1 _ _ (rd_L1 v x8) _ _ p b1 _ (cB hi hb1) hl (cB HP.out HB1.out) HC.out A2_).mono ?_; rintro e w11 ⟨v2, rfl, ho2, hb2⟩; refine ⟨_, rfl, ?_⟩; obtain ⟨Ao2, co2, eo2⟩ := rS ho2; subst eo2; have HB2 := A0_ (bT HB1.out hb2)) | ((with_reducible refine gC (f := 78) rfl ?_); refine goesL_ (some 18) rfl rfl Try.func78 (by kernel_rfl) rfl #[.slice Ao1 a.length co1, .slice Ao2 b1.length co2] rfl (by (try simp only [List.map_toArray, List.map_cons, List.map_nil]); first | done | rfl) ?_; refine (slices_Equal_int_int.calls k1 _ _ a _ _ b1 true _ (rR (rB ho1 hb2)).2.2 (rR ho1).2.1 (rR ho2).2.2 (rR ho2).2.1 A3).mono ?_; rintro e w12 ⟨rfl, ⟨nd, rfl⟩⟩; refine ⟨_, rfl, ?_⟩))
     have BKv2 := A0_ (kB (kB BKv.out hb1) hb2); have BKn2 := A0_ (kB (kB BKn.out hb1) hb2)
     go_roundg k1
     case measure => have := HK1.out; omega
     case rel => exact ⟨wrap64 (x8 + 1), rfl, ⟨H⟩, ⟨by have := HK1.out; omega⟩, ⟨kN BKv2.out nd⟩, ⟨kN BKn2.out nd⟩, ⟨bN HB2.out nd⟩⟩
   rw [if_neg c1] at H; have c1b := eq_false c1; obtain rfl := sI H
   have hczn : wr.cell? ⟨gn, 0, none⟩ = some (.int .i64 n) := (kC BKn.out 0).trans rfl
   have hfzn := kF BKn.out 0
   go_wp2
   go_end0
   exact ⟨⟨_, rfl⟩, by simpa using blk_put BKn.out 0 (.int .i64 (wrap64 (n + 1))) rfl, (Kept.of_below HB.out (fun k_ => k_ = gn)).setCell (.inl rfl) _, (HB.out.mono HG.out).setCell (Nat.le_refl _) _⟩
def impl_CoverDeck.g0 : Nat → List (List Int) → Int → List Int → Int → Int → Option Int
  | 0, _, _, _, _, _ => none
  | k + 1, v, n, p, i, c => if i < n then ((slices_Contains_int_int.f k p i).bind fun t => (if t = true then (impl_CoverDeck.g0 k v n p (wrap64 (i + 1)) c) else ((slices_Clone_int_int.f p).bind fun q => (if q.length ≤ 1048576 then ((if ((q ++ [i]).length : Int) = n then ((impl_CoverDeck.t0 k (q ++ [i]) v 0).bind fun b => (some (if b = true then wrap64 (c + 1) else c))) else (impl_CoverDeck.g0 k v n (q ++ [i]) 0 c)).bind fun c' => (impl_CoverDeck.g0 k v n p (wrap64 (i + 1)) c')) else none)))) else (some c)
def impl_CoverDeck.y0 (k : Nat) (v : List (List Int)) (n : Int) (p : List Int) (c : Int) : Option Int := if (p.length : Int) = n then ((impl_CoverDeck.t0 k p v 0).bind fun b => (some (if b = true then wrap64 (c + 1) else c))) else (impl_CoverDeck.g0 k v n p 0 c)
set_option maxHeartbeats 8000000 in
set_option maxRecDepth 100000 in
theorem impl_CoverDeck.try_ (gv gn gN gT gY : Nat) (A2 : Option Addr) (c2 : Nat) (v : List (List Int)) (n : Int) (h1 : gv ≠ gn) (h2 : gN ≠ gn) (h3 : gT ≠ gn) (h4 : gY ≠ gn) (hc2 : v.length ≤ c2) : ∀ (k : Nat) (A : Option Addr) (c : Nat) (p : List Int) (cnt r : Int) (w : World)
    (hp : ∀ W', Kept w W' (fun k_ => k_ = gn) → Kd.C (Kd.int .i64) W' A p.length p) (hc : p.length ≤ c) (hv : ∀ W', Kept w W' (fun k_ => k_ = gn) → Kd.C (Kd.slice 3 (Kd.int .i64)) W' A2 v.length v)
    (hbv : w.heap[gv]? = some (.cells #[.slice A2 v.length c2] 26 (0, 0))) (hbn : w.heap[gn]? = some (.cells #[.int .i64 cnt] 3 (0, 0))) (hbN : w.heap[gN]? = some (.cells #[.int .i64 n] 3 (0, 0)))
    (hbT : w.heap[gT]? = some (.cells #[.func (.func 77) #[] #[.pointer (some ⟨gv, 0, none⟩), .pointer (some ⟨gn, 0, none⟩)]] 72 (0, 0)))
    (hbY : w.heap[gY]? = some (.cells #[.func (.func 108) #[] #[.pointer (some ⟨gN, 0, none⟩), .pointer (some ⟨gT, 0, none⟩), .pointer (some ⟨gY, 0, none⟩)]] 72 (0, 0)))
    (h : impl_CoverDeck.y0 k v n p cnt = some r),
    Calls Try.prog 108 #[.slice A p.length c, .pointer (some ⟨gN, 0, none⟩), .pointer (some ⟨gT, 0, none⟩), .pointer (some ⟨gY, 0, none⟩)] w fun e w' => (∃ x, e = .returned x) ∧ w'.heap[gn]? = some (.cells #[.int .i64 r] 3 (0, 0)) ∧ Kept w w' (fun k_ => k_ = gn) ∧ Below gn w w' := by
 intro k
 induction k using Nat.strongRecOn with
 | ind k ih =>
 intro A c p cnt r w hp hc hv hbv hbn hbN hbT hbY h
 have HP := A0_ hp; have HC := A0_ hc; have HV := A0_ hv; have BKv := A0_ hbv; have BKn := A0_ hbn; have BKN := A0_ hbN; have BKT := A0_ hbT; have BKY := A0_ hbY; have IH := A0_ ih
 clear hp hc hv hbv hbn hbN hbT hbY ih
 have HK := A0_ (Kept.refl w (fun k_ => k_ = gn))
 have HGN := A0_ (kL BKn.out)
 have HU := A0_ (Below.refl gn w)
 have hczN : w.cell? ⟨gN, 0, none⟩ = some (.int .i64 n) := (kC BKN.out 0).trans rfl
 have hczT : w.cell? ⟨gT, 0, none⟩ = some (.func (.func 77) #[] #[.pointer (some ⟨gv, 0, none⟩), .pointer (some ⟨gn, 0, none⟩)]) := (kC BKT.out 0).trans rfl
 unfold impl_CoverDeck.y0 at h
 by_cases c1 : (p.length : Int) = n
 · rw [if_pos c1] at h
   have c1b : ((p.length : Int) == n) = true := beq_iff_eq.mpr c1
   obtain ⟨b, A1, h⟩ := Option.bind_eq_some_iff.mp h; have h := sI h
   go_enter Try.func108, Try.ntmps108
   go_wp2_with (first | (go_at_call 77; refine (impl_CoverDeck.tell k A c p A2 c2 v gv gn cnt b _ (HP.out _ HK.out) HC.out (HV.out _ HK.out) hc2 BKv.out BKn.out A1).mono ?_; rintro e w1 ⟨⟨x, rfl⟩, hn, hk, hu⟩))
   refine bodyPost_ret (results_none rfl _ _ _) rfl ?_
   rw [h] at hn
   exact ⟨⟨_, rfl⟩, hn, hk, hu⟩
 rw [if_neg c1] at h
 have c1b : ((p.length : Int) == n) = false := beq_eq_false_iff_ne.mpr c1
 have H' := A0_ h; clear h
 go_enter Try.func108, Try.ntmps108
 go_wp2
 go_loopg [14] k (fun kq v14 w' => ∃ (x14 : Int) (cn : Int), v14 = .int .i64 x14 ∧ Aside0 (impl_CoverDeck.g0 kq v n p x14 cn = some r) ∧ Aside0 (kq ≤ k) ∧ Aside0 (w'.heap[gn]? = some (.cells #[.int .i64 cn] 3 (0, 0))) ∧ Aside0 (Kept w w' (fun k_ => k_ = gn)) ∧ Aside0 (Below gn w w'))
 case atStart => exact ⟨0, cnt, rfl, H', ⟨Nat.le_refl _⟩, ⟨zK_ BKn⟩, ⟨HK.out⟩, ⟨HU.out⟩⟩
 case round =>
  clear H' BKn HK HU hczN hczT; obtain ⟨x14, cn, rfl, HA, HKL, BKn, HK, HU⟩ := hrel
  cases gk with
  | zero => exact absurd HA.out (by simp [impl_CoverDeck.g0])
  | succ k1 =>
   have H := HA.out; clear HA; simp only [impl_CoverDeck.g0] at H
   by_cases c2 : x14 < n
   · rw [if_pos c2] at H
     have c2b := eq_true c2; obtain ⟨t, A1, H⟩ := Option.bind_eq_some_iff.mp H
     cases t
     · rw [if_neg (by decide)] at H
       obtain ⟨q, A2_, H⟩ := Option.bind_eq_some_iff.mp H
       by_cases c3 : q.length ≤ 1048576
       · rw [if_pos c3] at H
         obtain ⟨c', A3, H⟩ := Option.bind_eq_some_iff.mp H
         go_wp2_with (first | (go_at_call 109; refine (slices_Contains_int_int.calls k1 A c p x14 false _ (HP.out _ HK.out) HC.out A1).mono ?_; rintro e w' ⟨rfl, ⟨nd, rfl⟩⟩))
         have hgn := HGN.out
         have hq : q = p ∧ p.length ≤ 1048576 := by
           unfold slices_Clone_int_int.f at A2_
           by_cases hl : p.length ≤ 1048576
           · rw [if_pos hl] at A2_; exact ⟨(sI A2_).symm, hl⟩
           rw [if_neg hl] at A2_; simp at A2_
         obtain ⟨rfl, hpl⟩ := hq
         have HK0 : Kept w (wr.drewN nd).drew (fun k_ => k_ = gn) := HK.out.drewN nd
         have HU0 : Below gn w (wr.drewN nd).drew := (impl_CoverDeck.below_drewN HU.out nd).drew
         have BKn0 : ((wr.drewN nd).drew).heap[gn]? = some (.cells #[.int .i64 cn] 3 (0, 0)) := BKn.out
         refine start_ (n := 7) (S := fun w' => (w'.cell? ⟨gY, 0, none⟩ = some (.func (.func 108) #[] #[.pointer (some ⟨gN, 0, none⟩), .pointer (some ⟨gT, 0, none⟩), .pointer (some ⟨gY, 0, none⟩)]))) (ds := []) #[false,false,false,false,false,false,false] (by kernel_rfl) rfl rfl ((kC (blk_kept BKY.out HK0 h4) 0).trans rfl) (fun hHeld => ?_)
         generalize (wr.drewN nd).drew = w3 at HK0 HU0 BKn0 hHeld ⊢
         refine zP 1 (some 22) #[false,true,false,false,false,false,false] ?_ (hc := by kernel_rfl)
         refine zP 3 (some 24) #[false,true,false,true,false,false,false] ?_ (hc := by kernel_rfl)
         refine take_ (i := 0) (N := some 21) (v := ?_) (a' := ?_) #[true,true,false,true,false,false,false] rfl rfl (by kernel_rfl) (fun _ _ _ h => h) (Or.inl ⟨by rfl, ?_⟩) hHeld ?_ ?_
         rotate_left
         · intro w' s0
           go_simp
           with_reducible rfl
         rotate_left
         · simp only [Act.put, List.setIfInBounds_toArray, List.set_cons_zero, List.set_cons_succ, i64_w, i32_w]
           rfl
         refine join_ (σ := Value × Value) 2 #[true,true,true,true,true,false,false] (fun s_ => [(23, s_.1), (25, s_.2)]) (fun s_ w' => (w'.cell? ⟨gY, 0, none⟩ = some (.func (.func 108) #[] #[.pointer (some ⟨gN, 0, none⟩), .pointer (some ⟨gT, 0, none⟩), .pointer (some ⟨gY, 0, none⟩)])) ∧ Kept w w' (fun k_ => k_ = gn) ∧ Below gn w w' ∧ w'.heap[gn]? = some (.cells #[.int .i64 cn] 3 (0, 0)) ∧ Kd.R (Kd.int .i64) 3 w' w.heap.size (fun _ => True) s_.1 q ∧ Kd.R (Kd.int .i64) 3 w' w.heap.size (fun _ => True) s_.2 [x14]) ?_ ?_
         · rintro ⟨v23, v25⟩ w8 ⟨hHeld, HK8, HU8, BKn8, HOa, HOb⟩
           dsimp only at HOa HOb
           obtain ⟨Aa, ca, ea⟩ := rS HOa; subst ea
           obtain ⟨Ab, cb, eb⟩ := rS HOb; subst eb
           refine norm_ (a' := ?_) ?_ ?_
           rotate_left
           · simp only [putAll, Act.put, List.setIfInBounds_toArray, List.set_cons_zero, List.set_cons_succ]
             rfl
           refine one_ (i := 5) (N := some 26) #[true,true,true,true,true,true,false] rfl rfl (by kernel_rfl) (by decide) (fun K hK => ?_)
           refine Kd.R_append_rows_step (Kd.int .i64) (w0 := w8) w.heap.size (by rfl) (.tmp 23) (.tmp 25) 23 3 (.int .i64 0) 8 rfl Try.underlying23 info3 rfl (by decide) (by omega) (.slice Aa q.length ca) q [x14] _ _ _ (fun _ => True) (fun _ => False) rfl rfl HOa (rR HOb).2.2 (fun _ _ h => h) (fun _ h => h.elim) (fun _ _ => trivial) (Below.refl _ _) HK8.1 (by simp; omega) ?_
           intro v26 w9 ho hb hg hat
           have hna : some gn ≠ (Value.slice Aa q.length ca).ownBlock := fun e_ => by have := ((Kd.R_bound HOa).1 gn e_.symm).2.1; omega
           have HK9 := Kept.of_grown hg HK8 (fun k_ e_ => .inr ((Kd.R_bound HOa).1 k_ e_).2.1)
           have BKn9 := blk_grown BKn8 hg hna
           have HU9 := Below.grown HU8 hg (by have := HK8.1; omega) (fun k_ e_ => by have := ((Kd.R_bound HOa).1 k_ e_).2.1; omega)
           obtain ⟨Ac, cc, ec⟩ := rS ho; subst ec
           refine hK.out _ _ ((kC (blk_kept BKY.out HK9 h4) 0).trans rfl) (fun hHeld => ?_)
           clear hK K
           refine norm_ (a' := ?_) ?_ ?_
           rotate_left
           · show Act.put _ (some 26) _ = _
             simp only [Act.put, List.setIfInBounds_toArray, List.set_cons_zero, List.set_cons_succ, i64_w, i32_w]
             rfl
           refine one_ (i := 6) (N := some 27) #[true,true,true,true,true,true,true] rfl rfl (by kernel_rfl) (by decide) (fun K hK => ?_)
           have A3' : impl_CoverDeck.y0 k1 v n (q ++ [x14]) cn = some c' := A3
           refine call_ 108 #[.slice Ac (q ++ [x14]).length cc, .pointer (some ⟨gN, 0, none⟩), .pointer (some ⟨gT, 0, none⟩), .pointer (some ⟨gY, 0, none⟩)] (by rfl) rfl ?_ ?_
           · first | rfl | (go_simp; done) | (go_simp; rfl)
           refine (IH.out k1 (by have := HKL.out; omega) Ac cc (q ++ [x14]) cn c' w9 (Kd.C_kept_own (Kd.R_bound ho) (fun k_ hk_ e_ => by have := hk_.2.1; omega)) (rR ho).2.1 (Kd.C_kept_step HV.out HK9) (blk_kept BKv.out HK9 h1) BKn9 (blk_kept BKN.out HK9 h2) (blk_kept BKT.out HK9 h3) (blk_kept BKY.out HK9 h4) A3').mono ?_
           rintro e w10 ⟨⟨v27, rfl⟩, hn, hk, hu⟩
           refine ⟨_, rfl, ?_⟩
           have HK10 := HK9.then_ hk (fun _ h => .inl h)
           refine hK.out _ _ ((kC (blk_kept BKY.out HK10 h4) 0).trans rfl) (fun hHeld => ?_)
           clear hK K
           refine done_ (by kernel_rfl) ?_
           try go_wp2
           go_roundg k1
           case measure => have := HKL.out; omega
           case rel => exact ⟨wrap64 (x14 + 1), c', rfl, ⟨H⟩, ⟨by have := HKL.out; omega⟩, ⟨hn⟩, ⟨HK10⟩, ⟨HU9.trans hu⟩⟩
         intro hJ
         refine two_ (i := 2) (j := 4) (Ni := some 23) (Nj := some 25) #[true,true,true,true,false,false,false] #[true,true,false,true,true,false,false] rfl rfl rfl rfl (by kernel_rfl) (by decide) (by decide) (fun K hK => ?_) (fun K hK => ?_)
         · refine goes_ Try.func106 (by kernel_rfl) rfl #[.slice A q.length c] (by rfl) rfl rfl (by (try simp only [List.map_toArray, List.map_cons, List.map_nil]); first | done | rfl) ?_
           refine (slices_Clone_int_int.calls A c q q _ (HP.out _ HK0) HC.out A2_).mono ?_
           rintro e w4 ⟨v23, rfl, ho1, hb1⟩
           refine ⟨_, rfl, ?_⟩
           have HK1 := HK0.below hb1; have HU1 := HU0.trans (hb1.mono (by have := HK0.1; omega))
           have BKn1 := kB BKn0 hb1
           have HOa := rL ho1 HK0.1
           refine hK.out _ _ ((kC (blk_kept BKY.out HK1 h4) 0).trans rfl) (fun hHeld => ?_)
           clear hK K
           refine norm_ (a' := ?_) ?_ ?_
           rotate_left
           · show Act.put _ (some 23) _ = _
             simp only [Act.put, List.setIfInBounds_toArray, List.set_cons_zero, List.set_cons_succ, i64_w, i32_w]
             rfl
           refine one_ (i := 4) (N := some 25) #[true,true,true,true,true,false,false] rfl rfl (by kernel_rfl) (by decide) (fun K hK => ?_)
           refine Kd.R_lit_step (Kd.int .i64) _ 3 ?hg (N := 25) ?hd (xs := ([x14] : List Int)) (inner := [.int .i64 x14]) (ok := fun _ => True) (okp := fun _ => True) ?hr ?hp (fun _ hk => hk) trivial (Below.refl _ _) (Nat.le_refl _) (by simp) ?_; (case hd => rfl); (case hg => rfl); (case hr => first | (go_simp; done) | (go_simp; rfl)); (case hp => exact (Reps.one (show Kd.M (Kd.int .i64) _ _ _ x14 [.int .i64 x14] from rfl) (Reps.none _ _)))
           intro v25 w5 ho2 hb2 hg_ hnew_
           clear hg_ hnew_
           have HK2 := HK1.below hb2; have HU2 := HU1.trans (hb2.mono (by have := HK1.1; omega))
           have BKn2 := kB BKn1 hb2
           have HOb := rL ho2 HK1.1
           refine hK.out _ _ ((kC (blk_kept BKY.out HK2 h4) 0).trans rfl) (fun hHeld => ?_)
           clear hK K
           refine norm_ (a' := ?_) ?_ ?_
           rotate_left
           · show Act.put _ (some 25) _ = _
             simp only [Act.put, List.setIfInBounds_toArray, List.set_cons_zero, List.set_cons_succ, i64_w, i32_w]
             rfl
           exact norm_ zA (hJ (v23, v25) _ ⟨hHeld, HK2, HU2, BKn2, rB HOa hb2, HOb⟩)
         refine Kd.R_lit_step (Kd.int .i64) _ 3 ?hg (N := 25) ?hd (xs := ([x14] : List Int)) (inner := [.int .i64 x14]) (ok := fun _ => True) (okp := fun _ => True) ?hr ?hp (fun _ hk => hk) trivial (Below.refl _ _) (Nat.le_refl _) (by simp) ?_; (case hd => rfl); (case hg => rfl); (case hr => first | (go_simp; done) | (go_simp; rfl)); (case hp => exact (Reps.one (show Kd.M (Kd.int .i64) _ _ _ x14 [.int .i64 x14] from rfl) (Reps.none _ _)))
         intro v25 w4 ho1 hb1 hg_ hnew_
         clear hg_ hnew_
         have HK1 := HK0.below hb1; have HU1 := HU0.trans (hb1.mono (by have := HK0.1; omega))
         have BKn1 := kB BKn0 hb1
         have HOb := rL ho1 HK0.1
         refine hK.out _ _ ((kC (blk_kept BKY.out HK1 h4) 0).trans rfl) (fun hHeld => ?_)
         clear hK K
         refine norm_ (a' := ?_) ?_ ?_
         rotate_left
         · show Act.put _ (some 25) _ = _
           simp only [Act.put, List.setIfInBounds_toArray, List.set_cons_zero, List.set_cons_succ, i64_w, i32_w]
           rfl
         refine one_ (i := 2) (N := some 23) #[true,true,true,true,true,false,false] rfl rfl (by kernel_rfl) (by decide) (fun K hK => ?_)
         refine goes_ Try.func106 (by kernel_rfl) rfl #[.slice A q.length c] (by rfl) rfl rfl (by (try simp only [List.map_toArray, List.map_cons, List.map_nil]); first | done | rfl) ?_
         refine (slices_Clone_int_int.calls A c q q _ (HP.out _ HK1) HC.out A2_).mono ?_
         rintro e w5 ⟨v23, rfl, ho2, hb2⟩
         refine ⟨_, rfl, ?_⟩
         have HK2 := HK1.below hb2; have HU2 := HU1.trans (hb2.mono (by have := HK1.1; omega))
         have BKn2 := kB BKn1 hb2
         have HOa := rL ho2 HK1.1
         refine hK.out _ _ ((kC (blk_kept BKY.out HK2 h4) 0).trans rfl) (fun hHeld => ?_)
         clear hK K
         refine norm_ (a' := ?_) ?_ ?_
         rotate_left
         · show Act.put _ (some 23) _ = _
           simp only [Act.put, List.setIfInBounds_toArray, List.set_cons_zero, List.set_cons_succ, i64_w, i32_w]
           rfl
         exact norm_ zA (hJ (v23, v25) _ ⟨hHeld, HK2, HU2, BKn2, HOa, rB HOb hb2⟩)
       rw [if_neg c3] at H; simp at H
     rw [if_pos rfl] at H
     go_wp2_with (first | (go_at_call 109; refine (slices_Contains_int_int.calls k1 A c p x14 true _ (HP.out _ HK.out) HC.out A1).mono ?_; rintro e w' ⟨rfl, ⟨nd, rfl⟩⟩))
     go_roundg k1
     case measure => have := HKL.out; omega
     case rel => exact ⟨wrap64 (x14 + 1), cn, rfl, ⟨H⟩, ⟨by have := HKL.out; omega⟩, ⟨kN BKn.out nd⟩, ⟨HK.out.drewN nd⟩, ⟨impl_CoverDeck.below_drewN HU.out nd⟩⟩
   rw [if_neg c2] at H; have c2b := eq_false c2; obtain rfl := sI H
   go_wp2
   go_end0
   exact ⟨⟨_, rfl⟩, BKn.out, HK.out, HU.out⟩
theorem impl_CoverDeck.store_func {P : Program} {w : World} {a : Addr} {m : Mode} (fn : Fn) (x y : Array Value) : (store a (.func fn x y) m).run P w = stored P w a (.func fn x y) m := run_store P w a _ m rfl
attribute [local go_sem] impl_CoverDeck.store_func
set_option maxHeartbeats 8000000 in
set_option maxRecDepth 100000 in
theorem impl_CoverDeck.perms (gv gn : Nat) (A2 : Option Addr) (c2 : Nat) (v : List (List Int)) (n : Int) (h1 : gv ≠ gn) (hc2 : v.length ≤ c2) (k : Nat) (cnt r : Int) (w : World)
    (hv : ∀ W', Kept w W' (fun k_ => k_ = gn) → Kd.C (Kd.slice 3 (Kd.int .i64)) W' A2 v.length v)
    (hbv : w.heap[gv]? = some (.cells #[.slice A2 v.length c2] 26 (0, 0))) (hbn : w.heap[gn]? = some (.cells #[.int .i64 cnt] 3 (0, 0)))
    (h : impl_CoverDeck.y0 k v n [] cnt = some r) :
    Calls Try.prog 76 #[.int .i64 n, .func (.func 77) #[] #[.pointer (some ⟨gv, 0, none⟩), .pointer (some ⟨gn, 0, none⟩)]] w fun e w' => (∃ x, e = .returned x) ∧ w'.heap[gn]? = some (.cells #[.int .i64 r] 3 (0, 0)) ∧ Kept w w' (fun k_ => k_ = gn) ∧ Below gn w w' := by
 have HV := A0_ hv; have BKv := A0_ hbv; have BKn := A0_ hbn
 clear hv hbv hbn
 have HK := A0_ (Kept.refl w (fun k_ => k_ = gn))
 have HGN := A0_ (kL BKn.out)
 have hmf : ∀ (fn : Fn) (first cap : Array Value) (w : World), (Instr.makeFunc fn first cap).run Try.prog w = .ok (.func fn first cap) w := fun _ _ _ _ => rfl
 go_enter Try.func76, Try.ntmps76
 go_wp2_with (first | ((with_reducible refine gD (N := 2) rfl ?_); refine zX (N := 2) (cs := #[.int .i64 n]) (t := 3) ?_; intro gN hgN w1 bN b1; have NN : gN ≠ gn := (by have := HGN.out; omega); have K1 := HK.out.below b1; have LN := kL bN; clear hgN) | ((with_reducible refine gD (N := 3) rfl ?_); refine zX (N := 3) (cs := #[(.func (.func 77) #[] #[.pointer (some ⟨gv, 0, none⟩), .pointer (some ⟨gn, 0, none⟩)])]) (t := 72) ?_; intro gT hgT w2 bT b2; have NT : gT ≠ gn := (by have := HGN.out; have := K1.1; omega); have K2 := K1.below b2; have bN2 := kB bN b2; clear hgT) | ((with_reducible refine gD (N := 4) rfl ?_); refine zX (N := 4) (cs := #[.nilFunc]) (t := 72) ?_; intro gY hgY w3 bY b3; have NY : gY ≠ gn := (by have := HGN.out; have := K2.1; omega); have NYN : gN ≠ gY := (by have := kL bN2; omega); have NYT : gT ≠ gY := (by have := kL bT; omega); have NYv : gv ≠ gY := (by have := kL BKv.out; have := K2.1; omega); have K3 := K2.below b3; have bN3 := kB bN2 b3; have bT3 := kB bT b3; have hczY : w3.cell? ⟨gY, 0, none⟩ = some .nilFunc := (kC bY 0).trans rfl; have hfzY := kF bY 0; have LY : w.heap.size ≤ gY := (by have := K2.1; omega); clear hgY) | ((with_reducible refine gS (t := 72) (p := 4) rfl ?_); refine store_event (t := 72) (p := 4) (v := ?vo) (w1 := w3.setCell ⟨gY, 0, none⟩ (.func (.func 108) #[] #[.pointer (some ⟨gN, 0, none⟩), .pointer (some ⟨gT, 0, none⟩), .pointer (some ⟨gY, 0, none⟩)])) ?hg ?ho ?hn ?hr ?_; (case ho => rfl); (case hg => rfl); (case hn => rfl); (case hr => first | (go_simp; done) | (go_simp; rfl)); intro w4 hw; have bY4 : w4.heap[gY]? = some (.cells #[(.func (.func 108) #[] #[.pointer (some ⟨gN, 0, none⟩), .pointer (some ⟨gT, 0, none⟩), .pointer (some ⟨gY, 0, none⟩)])] 72 (0, 0)) := (by rw [hw]; exact blk_put bY 0 _ rfl); have bN4 : w4.heap[gN]? = some (.cells #[.int .i64 n] 3 (0, 0)) := (by rw [hw]; exact blk_far bN3 NYN _); have bT4 : w4.heap[gT]? = some (.cells #[(.func (.func 77) #[] #[.pointer (some ⟨gv, 0, none⟩), .pointer (some ⟨gn, 0, none⟩)])] 72 (0, 0)) := (by rw [hw]; exact blk_far bT3 NYT _); have K4 : Kept w w4 (fun k_ => k_ = gn) := (by rw [hw]; exact K3.setCell (.inr LY) _); have U4 : Below gn w w4 := (by rw [hw]; refine Below.setCell (((b1.mono (by have := HGN.out; omega)).trans (b2.mono (by have := HGN.out; have := K1.1; omega))).trans (b3.mono (by have := HGN.out; have := K2.1; omega))) (show gn ≤ gY by have := HGN.out; omega) _); have bn4 : w4.heap[gn]? = some (.cells #[.int .i64 cnt] 3 (0, 0)) := (by rw [hw]; exact blk_far (kB (kB (kB BKn.out b1) b2) b3) NY.symm _); clear hw hczY hfzY; have hcz4 : w4.cell? ⟨gY, 0, none⟩ = some (.func (.func 108) #[] #[.pointer (some ⟨gN, 0, none⟩), .pointer (some ⟨gT, 0, none⟩), .pointer (some ⟨gY, 0, none⟩)]) := (kC bY4 0).trans rfl) | (go_at_call 108; refine (impl_CoverDeck.try_ gv gn gN gT gY A2 c2 v n h1 NN NT NY hc2 k none 0 [] cnt r w4 (Kd.C_kept_nil) (Nat.le_refl _) (Kd.C_kept_step HV.out K4) (blk_kept BKv.out K4 h1) bn4 bN4 bT4 bY4 h).mono ?_; rintro e w5 ⟨⟨x, rfl⟩, hn, hk, hu⟩))
 go_end0
 exact ⟨⟨_, rfl⟩, hn, K4.then_ hk (fun _ h => .inl h), U4.trans hu⟩
def impl_CoverDeck.f (k : Nat) (l0_0 : List Int) (l0_1 : List Int) (a1 : Int) (l2 : List (List Int)) : Option (Int) := (impl_VoltageValid.f k l0_0 l0_1 a1 l2).bind fun t => (if t = true then (if a1 > 4 then (some (-1)) else (impl_CoverDeck.y0 k l2 a1 [] 0)) else (some (-1)))
set_option maxHeartbeats 8000000 in
set_option maxRecDepth 100000 in
theorem impl_CoverDeck.calls (k : Nat) (A0_0 : Option Addr) (c0_0 : Nat) (l0_0 : List Int) (A0_1 : Option Addr) (c0_1 : Nat) (l0_1 : List Int) (a1 : Int) (A2 : Option Addr) (c2 : Nat) (l2 : List (List Int)) (r : Int) (w : World) (hr0_0 : Kd.C (Kd.int .i64) w A0_0 l0_0.length l0_0) (hc0_0 : l0_0.length ≤ c0_0) (hr0_1 : Kd.C (Kd.int .i64) w A0_1 l0_1.length l0_1) (hc0_1 : l0_1.length ≤ c0_1) (hr2 : Kd.C (Kd.slice 3 (Kd.int .i64)) w A2 l2.length l2) (hc2 : l2.length ≤ c2) (h : impl_CoverDeck.f k l0_0 l0_1 a1 l2 = some r) :
    Calls Try.prog 27 #[.agg #[.slice A0_0 l0_0.length c0_0, .slice A0_1 l0_1.length c0_1], .int .i64 a1, .slice A2 l2.length c2] w fun e w' => e = .returned (.int .i64 r) ∧ Below w.heap.size w w' := by
 have hu29 := Try.underlying25; have HR0_0 := A0_ hr0_0; have HC0_0 := A0_ hc0_0; clear hr0_0 hc0_0; have HR0_1 := A0_ hr0_1; have HC0_1 := A0_ hc0_1; clear hr0_1 hc0_1; have HR2 := A0_ hr2; have HC2 := A0_ hc2; clear hr2 hc2
 have HB := A0_ (Below.refl w.heap.size w)
 have hmf : ∀ (fn : Fn) (first cap : Array Value) (w : World), (Instr.makeFunc fn first cap).run Try.prog w = .ok (.func fn first cap) w := fun _ _ _ _ => rfl
 unfold impl_CoverDeck.f at h
 obtain ⟨t, A1, H⟩ := Option.bind_eq_some_iff.mp h; clear h
 cases t
 · rw [if_neg (by decide)] at H; obtain rfl := sI H
   go_enter Try.func27, Try.ntmps27
   go_wp2_with (first | ((with_reducible refine gD (N := 3) rfl ?_); refine zX (N := 3) (cs := #[.slice A0_0 l0_0.length c0_0, .slice A0_1 l0_1.length c0_1]) (t := 25) ?_; intro gm hgm w1 bm b1; have HB1 := bT HB.out b1; clear hgm) | ((with_reducible refine gD (N := 5) rfl ?_); refine zX (N := 5) (cs := #[.slice A2 l2.length c2]) (t := 26) ?_; intro gv hgv w2 bv b2; have bm2 := kB bm b2; have HB2 := bT HB1 b2; have GV : w.heap.size ≤ gv := (by have := HB1.size; omega); clear hgv; have hm0 : w2.cell? ⟨gm, 0, none⟩ = some (.slice A0_0 l0_0.length c0_0) := (kC bm2 0).trans rfl; have hm1 : w2.cell? ⟨gm, 1, none⟩ = some (.slice A0_1 l0_1.length c0_1) := (kC bm2 1).trans rfl; have hv0 : w2.cell? ⟨gv, 0, none⟩ = some (.slice A2 l2.length c2) := (kC bv 0).trans rfl) | (go_at_call 53; refine (impl_VoltageValid.calls k A0_0 c0_0 l0_0 A0_1 c0_1 l0_1 a1 A2 c2 l2 false w2 (cB HR0_0.out HB2) HC0_0.out (cB HR0_1.out HB2) HC0_1.out (cB HR2.out HB2) HC2.out A1).mono ?_; rintro e w3 ⟨rfl, b3⟩; have HB3 := bT HB2 b3; have bv3 := kB bv b3))
   go_ret
   exact ⟨by first | rfl | (simp [*] <;> rfl), by repeat (first | exact HB3 | apply bA | apply bN | apply bD)⟩
 rw [if_pos rfl] at H
 by_cases c4 : a1 > 4
 · rw [if_pos c4] at H; obtain rfl := sI H
   have c4b : decide (4 < a1) = true := dT c4
   go_enter Try.func27, Try.ntmps27
   go_wp2_with (first | ((with_reducible refine gD (N := 3) rfl ?_); refine zX (N := 3) (cs := #[.slice A0_0 l0_0.length c0_0, .slice A0_1 l0_1.length c0_1]) (t := 25) ?_; intro gm hgm w1 bm b1; have HB1 := bT HB.out b1; clear hgm) | ((with_reducible refine gD (N := 5) rfl ?_); refine zX (N := 5) (cs := #[.slice A2 l2.length c2]) (t := 26) ?_; intro gv hgv w2 bv b2; have bm2 := kB bm b2; have HB2 := bT HB1 b2; have GV : w.heap.size ≤ gv := (by have := HB1.size; omega); clear hgv; have hm0 : w2.cell? ⟨gm, 0, none⟩ = some (.slice A0_0 l0_0.length c0_0) := (kC bm2 0).trans rfl; have hm1 : w2.cell? ⟨gm, 1, none⟩ = some (.slice A0_1 l0_1.length c0_1) := (kC bm2 1).trans rfl; have hv0 : w2.cell? ⟨gv, 0, none⟩ = some (.slice A2 l2.length c2) := (kC bv 0).trans rfl) | (go_at_call 53; refine (impl_VoltageValid.calls k A0_0 c0_0 l0_0 A0_1 c0_1 l0_1 a1 A2 c2 l2 true w2 (cB HR0_0.out HB2) HC0_0.out (cB HR0_1.out HB2) HC0_1.out (cB HR2.out HB2) HC2.out A1).mono ?_; rintro e w3 ⟨rfl, b3⟩; have HB3 := bT HB2 b3; have bv3 := kB bv b3))
   go_ret
   exact ⟨by first | rfl | (simp [*] <;> rfl), by repeat (first | exact HB3 | apply bA | apply bN | apply bD)⟩
 rw [if_neg c4] at H
 have c4b : decide (4 < a1) = false := dF c4
 go_enter Try.func27, Try.ntmps27
 go_wp2_with (first | ((with_reducible refine gD (N := 3) rfl ?_); refine zX (N := 3) (cs := #[.slice A0_0 l0_0.length c0_0, .slice A0_1 l0_1.length c0_1]) (t := 25) ?_; intro gm hgm w1 bm b1; have HB1 := bT HB.out b1; clear hgm) | ((with_reducible refine gD (N := 5) rfl ?_); refine zX (N := 5) (cs := #[.slice A2 l2.length c2]) (t := 26) ?_; intro gv hgv w2 bv b2; have bm2 := kB bm b2; have HB2 := bT HB1 b2; have GV : w.heap.size ≤ gv := (by have := HB1.size; omega); clear hgv; have hm0 : w2.cell? ⟨gm, 0, none⟩ = some (.slice A0_0 l0_0.length c0_0) := (kC bm2 0).trans rfl; have hm1 : w2.cell? ⟨gm, 1, none⟩ = some (.slice A0_1 l0_1.length c0_1) := (kC bm2 1).trans rfl; have hv0 : w2.cell? ⟨gv, 0, none⟩ = some (.slice A2 l2.length c2) := (kC bv 0).trans rfl) | (go_at_call 53; refine (impl_VoltageValid.calls k A0_0 c0_0 l0_0 A0_1 c0_1 l0_1 a1 A2 c2 l2 true w2 (cB HR0_0.out HB2) HC0_0.out (cB HR0_1.out HB2) HC0_1.out (cB HR2.out HB2) HC2.out A1).mono ?_; rintro e w3 ⟨rfl, b3⟩; have HB3 := bT HB2 b3; have bv3 := kB bv b3) | ((with_reducible refine gD (N := 7) rfl ?_); refine zX (N := 7) (cs := #[.int .i64 0]) (t := 3) ?_; intro gn hgn w4 bn b4; have bv4 := kB bv3 b4; have HB4 := bT HB3 b4; have GN : w.heap.size ≤ gn := (by have := HB3.size; omega); have NVN : gv ≠ gn := (by have := kL bv3; omega); clear hgn; have hn0 : w4.cell? ⟨gn, 0, none⟩ = some (.int .i64 0) := (kC bn 0).trans rfl; have hf0 := kF bn 0) | ((with_reducible refine gS (t := 3) (p := 7) rfl ?_); refine store_event (t := 3) (p := 7) (v := ?vo) (w1 := w4.setCell ⟨gn, 0, none⟩ (.int .i64 0)) ?hg ?ho ?hn ?hr ?_; (case ho => rfl); (case hg => rfl); (case hn => rfl); (case hr => first | (go_simp; done) | (go_simp; rfl)); intro w5 hw; have bn5 : w5.heap[gn]? = some (.cells #[.int .i64 0] 3 (0, 0)) := (by rw [hw]; exact blk_put bn 0 _ rfl); have bv5 : w5.heap[gv]? = some (.cells #[.slice A2 l2.length c2] 26 (0, 0)) := (by rw [hw]; exact blk_far bv4 NVN _); have HB5 : Below w.heap.size w w5 := (by rw [hw]; exact bS HB4 GN); clear hw hn0 hf0) | (go_at_call 76; refine (impl_CoverDeck.perms gv gn A2 c2 l2 a1 NVN HC2.out k 0 r w5 (Kd.C_kept_came (Kd.heap_slice 3 (Kd.heap_int .i64)) HR2.out HB5 (fun k_ e_ => by rw [e_]; exact GN)) bv5 bn5 H).mono ?_; rintro e w6 ⟨⟨x, rfl⟩, hn6, hk6, hu6⟩; have hn7 : w6.cell? ⟨gn, 0, none⟩ = some (.int .i64 r) := (kC hn6 0).trans rfl))
 go_ret
 exact ⟨by first | rfl | (simp [*] <;> rfl), HB5.trans (hu6.mono GN)⟩


/-! ### spec_VoltageValid: function 56 -/
mutual
def spec_VoltageValid.j0 : Nat → Int → List (List Int) → Bool → Option (Bool)
  | 0, _, _, _ => none
  | k + 1, x1, x2, x32 => if x32 = true then (some false) else (spec_VoltageValid.l0 k x1 x2 0)
def spec_VoltageValid.l0 : Nat → Int → List (List Int) → Int → Option (Bool)
  | 0, _, _, _ => none
  | k + 1, x1, x2, x7 => if x7 < (x2.length : Int) then (if 0 ≤ x7 then ((spec_PermValid.f k (rd_L1 x2 x7)).bind fun t405 => (if t405 = true then (if ((rd_L1 x2 x7).length : Int) = x1 then (spec_VoltageValid.l0 k x1 x2 (wrap64 (x7 + 1))) else (some false)) else (some false))) else (none)) else (some true)
end
def spec_VoltageValid.f (k : Nat) (l0_0 : List Int) (l0_1 : List Int) (a1 : Int) (l2 : List (List Int)) : Option (Bool) := (spec_MapValid.f k l0_0 l0_1).bind fun t402 => (if t402 = true then ((spec_l6In.f a1 1 6).bind fun t403 => (if t403 = true then (if (wrap64 (a1 * (l0_0.length : Int))) > 12 then (spec_VoltageValid.j0 k a1 l2 true) else (spec_VoltageValid.j0 k a1 l2 ((l2.length : Int) != (wrap64 ((l0_1.length : Int) / 2))))) else (spec_VoltageValid.j0 k a1 l2 true))) else (spec_VoltageValid.j0 k a1 l2 true))
set_option maxHeartbeats 8000000 in
set_option maxRecDepth 100000 in
theorem spec_VoltageValid.calls (k : Nat) (A0_0 : Option Addr) (c0_0 : Nat) (l0_0 : List Int) (A0_1 : Option Addr) (c0_1 : Nat) (l0_1 : List Int) (a1 : Int) (A2 : Option Addr) (c2 : Nat) (l2 : List (List Int)) (r : Bool) (w : World) (hr0_0 : Kd.C (Kd.int .i64) w A0_0 l0_0.length l0_0) (hc0_0 : l0_0.length ≤ c0_0) (hr0_1 : Kd.C (Kd.int .i64) w A0_1 l0_1.length l0_1) (hc0_1 : l0_1.length ≤ c0_1) (hr2 : Kd.C (Kd.slice 3 (Kd.int .i64)) w A2 l2.length l2) (hc2 : l2.length ≤ c2) (h : spec_VoltageValid.f k l0_0 l0_1 a1 l2 = some r) :
    Calls Try.prog 56 #[.agg #[.slice A0_0 l0_0.length c0_0, .slice A0_1 l0_1.length c0_1], .int .i64 a1, .slice A2 l2.length c2] w fun e w' => e = .returned (.bool r) ∧ Below w.heap.size w w' := by
 have hu25 := Try.underlying25; have HR0_0 := A0_ hr0_0; have HC0_0 := A0_ hc0_0; clear hr0_0 hc0_0; have HR0_1 := A0_ hr0_1; have HC0_1 := A0_ hc0_1; clear hr0_1 hc0_1; have HR2 := A0_ hr2; have HC2 := A0_ hc2; clear hr2 hc2
 have HB := A0_ (Below.refl w.heap.size w)
 have H : ((spec_MapValid.f k l0_0 l0_1).bind fun t402 => (if t402 = true then ((spec_l6In.f a1 1 6).bind fun t403 => (if t403 = true then (if (wrap64 (a1 * (l0_0.length : Int))) > 12 then (spec_VoltageValid.j0 k a1 l2 true) else (spec_VoltageValid.j0 k a1 l2 ((l2.length : Int) != (wrap64 ((l0_1.length : Int) / 2))))) else (spec_VoltageValid.j0 k a1 l2 true))) else (spec_VoltageValid.j0 k a1 l2 true))) = some r := h
 clear h; have HC4 := A0_ H; clear H
 go_enter Try.func56, Try.ntmps56
 go_upto_region 1 with (first | ((with_reducible refine gD (N := 3) rfl ?_); refine zX (N := 3) (cs := #[.slice A0_0 l0_0.length c0_0, .slice A0_1 l0_1.length c0_1]) (t := 25) ?_; intro gb401 hg w5 hbox hb; have BK401 := A0_ (hbox); have GW401 := zG hg HB; have GE401 := zG hg HB; replace HB := zB HB hb; clear hb hbox hg))
 (try simp only [Act.put, List.setIfInBounds_toArray, List.set_cons_zero, List.set_cons_succ])
 go_cut [32] (fun v32 wc => ∃ (kq : Nat) (x32_3 : Bool), v32 = .bool x32_3 ∧ Aside0 (spec_VoltageValid.j0 kq a1 l2 x32_3 = some r) ∧ Aside0 (kq ≤ k) ∧ Aside0 (wc.heap[gb401]? = some (.cells #[(.slice A0_0 l0_0.length c0_0), (.slice A0_1 l0_1.length c0_1)] 25 (0, 0))) ∧ Aside0 (Below w.heap.size w wc))
 case first =>
  have H := HC4.out; clear HC4; obtain ⟨t402, A6, H⟩ := zbind H
  by_cases c7 : t402 = true
  ·subst c7
   rw [if_pos rfl] at H; obtain ⟨t403, A8, H⟩ := zbind H
   by_cases c9 : t403 = true
   ·subst c9
    rw [if_pos rfl] at H
    by_cases c10 : (wrap64 (a1 * (l0_0.length : Int))) > 12
    ·rw [if_pos c10] at H
     have c10b0 : decide (12 < (wrap64 (a1 * (l0_0.length : Int)))) = true := dT c10
     clear c10
     (first | rw [c10b0] | (simp only [i64_w, i32_w]; rw [c10b0]) | skip)
     have H' := A0_ H; clear H; have hcz11_0 := zc0 BK401; have hcz11_1 := zc1 BK401; have hfz11_0 := kF BK401.out 0; have hfz11_1 := kF BK401.out 1
     go_wp2_with (first | ((with_reducible refine gC (f := 57) rfl ?_); refine zJ (some 9) Try.func57 #[.agg #[.slice A0_0 l0_0.length c0_0, .slice A0_1 l0_1.length c0_1]] ?_; (with_reducible refine (spec_MapValid.calls k _ _ l0_0 _ _ l0_1 true _ ?side1 ?side2 ?side3 ?side4 A6.out).mono ?_); (case side1 => exact zC HR0_0 HB); (case side2 => exact HC0_0.out); (case side3 => exact zC HR0_1 HB); (case side4 => exact HC0_1.out); rintro e w12 ⟨rfl, hb⟩; refine ⟨_, rfl, ?_⟩; replace BK401 := zK BK401 hb; replace HB := zB HB hb; (try clear hb)) | (go_at_call 101; (with_reducible refine (spec_l6In.calls a1 1 6 true _ A8.out).mono ?_); rintro e w' ⟨rfl, ⟨nd, rfl⟩⟩; have hcz13_0 := zc0 BK401; have hcz13_1 := zc1 BK401; have hfz13_0 := kF BK401.out 0; have hfz13_1 := kF BK401.out 1))
     go_meet
     case rel => exact ⟨_, (true), zt, H', zo, ⟨zK_ BK401⟩, ⟨zB_ HB⟩⟩
    rw [if_neg c10] at H
    have c10b0 : decide (12 < (wrap64 (a1 * (l0_0.length : Int)))) = false := dF c10
    clear c10
    (first | rw [c10b0] | (simp only [i64_w, i32_w]; rw [c10b0]) | skip)
    have H' := A0_ H; clear H; have hcz14_0 := zc0 BK401; have hcz14_1 := zc1 BK401; have hfz14_0 := kF BK401.out 0; have hfz14_1 := kF BK401.out 1
    go_wp2_with (first | ((with_reducible refine gC (f := 57) rfl ?_); refine zJ (some 9) Try.func57 #[.agg #[.slice A0_0 l0_0.length c0_0, .slice A0_1 l0_1.length c0_1]] ?_; (with_reducible refine (spec_MapValid.calls k _ _ l0_0 _ _ l0_1 true _ ?side1 ?side2 ?side3 ?side4 A6.out).mono ?_); (case side1 => exact zC HR0_0 HB); (case side2 => exact HC0_0.out); (case side3 => exact zC HR0_1 HB); (case side4 => exact HC0_1.out); rintro e w15 ⟨rfl, hb⟩; refine ⟨_, rfl, ?_⟩; replace BK401 := zK BK401 hb; replace HB := zB HB hb; (try clear hb)) | (go_at_call 101; (with_reducible refine (spec_l6In.calls a1 1 6 true _ A8.out).mono ?_); rintro e w' ⟨rfl, ⟨nd, rfl⟩⟩; have hcz16_0 := zc0 BK401; have hcz16_1 := zc1 BK401; have hfz16_0 := kF BK401.out 0; have hfz16_1 := kF BK401.out 1))
    go_meet
    case rel => exact ⟨_, (((l2.length : Int) != (wrap64 ((l0_1.length : Int) / 2)))), zt, H', zo, ⟨zK_ BK401⟩, ⟨zB_ HB⟩⟩
   replace c9 := Bool.eq_false_iff.mpr c9; subst c9
   rw [if_neg (show ¬ (false = true) by decide)] at H
   have H' := A0_ H; clear H; have hcz17_0 := zc0 BK401; have hcz17_1 := zc1 BK401; have hfz17_0 := kF BK401.out 0; have hfz17_1 := kF BK401.out 1
   go_wp2_with (first | ((with_reducible refine gC (f := 57) rfl ?_); refine zJ (some 9) Try.func57 #[.agg #[.slice A0_0 l0_0.length c0_0, .slice A0_1 l0_1.length c0_1]] ?_; (with_reducible refine (spec_MapValid.calls k _ _ l0_0 _ _ l0_1 true _ ?side1 ?side2 ?side3 ?side4 A6.out).mono ?_); (case side1 => exact zC HR0_0 HB); (case side2 => exact HC0_0.out); (case side3 => exact zC HR0_1 HB); (case side4 => exact HC0_1.out); rintro e w18 ⟨rfl, hb⟩; refine ⟨_, rfl, ?_⟩; replace BK401 := zK BK401 hb; replace HB := zB HB hb; (try clear hb)) | (go_at_call 101; (with_reducible refine (spec_l6In.calls a1 1 6 false _ A8.out).mono ?_); rintro e w' ⟨rfl, ⟨nd, rfl⟩⟩))
   go_meet
   case rel => exact ⟨_, (true), zt, H', zo, ⟨zK_ BK401⟩, ⟨zB_ HB⟩⟩
  replace c7 := Bool.eq_false_iff.mpr c7; subst c7
  rw [if_neg (show ¬ (false = true) by decide)] at H
  have H' := A0_ H; clear H; have hcz19_0 := zc0 BK401; have hcz19_1 := zc1 BK401; have hfz19_0 := kF BK401.out 0; have hfz19_1 := kF BK401.out 1
  go_wp2_with (first | ((with_reducible refine gC (f := 57) rfl ?_); refine zJ (some 9) Try.func57 #[.agg #[.slice A0_0 l0_0.length c0_0, .slice A0_1 l0_1.length c0_1]] ?_; (with_reducible refine (spec_MapValid.calls k _ _ l0_0 _ _ l0_1 false _ ?side1 ?side2 ?side3 ?side4 A6.out).mono ?_); (case side1 => exact zC HR0_0 HB); (case side2 => exact HC0_0.out); (case side3 => exact zC HR0_1 HB); (case side4 => exact HC0_1.out); rintro e w20 ⟨rfl, hb⟩; refine ⟨_, rfl, ?_⟩; replace BK401 := zK BK401 hb; replace HB := zB HB hb; (try clear hb)))
  go_meet
  case rel => exact ⟨_, (true), zt, H', zo, ⟨zK_ BK401⟩, ⟨zB_ HB⟩⟩
 case rest =>
  clear HC4; (try clear c1); (try clear c2); (try clear p2); (try clear c5); (try clear p6); (try clear c7); (try clear c9); (try clear c10); (try clear c10b0); (try clear hcz11_0); (try clear hcz11_1); (try clear hcz13_0); (try clear hcz13_1); (try clear hcz14_0); (try clear hcz14_1); (try clear hcz16_0); (try clear hcz16_1); (try clear hcz17_0); (try clear hcz17_1); (try clear hcz19_0); (try clear hcz19_1); (try clear hfz11_0); (try clear hfz11_1); (try clear hfz13_0); (try clear hfz13_1); (try clear hfz14_0); (try clear hfz14_1); (try clear hfz16_0); (try clear hfz16_1); (try clear hfz17_0); (try clear hfz17_1); (try clear hfz19_0); (try clear hfz19_1); obtain ⟨kq, x32_3, rfl, HA, HJ3, BK401, HB⟩ := hcut
  cases kq with
  | zero => exact absurd HA.out (by simp [spec_VoltageValid.j0])
  | succ kj3 =>
   have H := HA.out; clear HA; simp only [spec_VoltageValid.j0] at H
   by_cases c21 : x32_3 = true
   ·subst c21
    rw [if_pos rfl] at H; obtain rfl := sI H
    go_wp2
    go_ret
    exact ⟨by first | rfl | (simp [*] <;> rfl), zB_ HB⟩
   replace c21 := Bool.eq_false_iff.mpr c21; subst c21
   rw [if_neg (show ¬ (false = true) by decide)] at H
   have H' := A0_ H; clear H
   go_wp2
   go_loopg [7] kj3 (fun kq v7 w' => ∃ (x7_2 : Int), v7 = .int .i64 x7_2 ∧ Aside0 (spec_VoltageValid.l0 kq a1 l2 x7_2 = some r) ∧ Aside0 (kq ≤ kj3) ∧ Aside0 (w'.heap[gb401]? = some (.cells #[(.slice A0_0 l0_0.length c0_0), (.slice A0_1 l0_1.length c0_1)] 25 (0, 0))) ∧ Aside0 (Below w.heap.size w w'))
   case atStart => exact ⟨(0), zt, H', ⟨Nat.le_refl _⟩, ⟨zK_ BK401⟩, ⟨zB_ HB⟩⟩
   case round =>
    clear H'; (try clear c1); (try clear c2); (try clear p2); (try clear c5); (try clear p6); (try clear c7); (try clear c9); (try clear c10); (try clear c10b0); (try clear c21); (try clear hcz11_0); (try clear hcz11_1); (try clear hcz13_0); (try clear hcz13_1); (try clear hcz14_0); (try clear hcz14_1); (try clear hcz16_0); (try clear hcz16_1); (try clear hcz17_0); (try clear hcz17_1); (try clear hcz19_0); (try clear hcz19_1); (try clear hfz11_0); (try clear hfz11_1); (try clear hfz13_0); (try clear hfz13_1); (try clear hfz14_0); (try clear hfz14_1); (try clear hfz16_0); (try clear hfz16_1); (try clear hfz17_0); (try clear hfz17_1); (try clear hfz19_0); (try clear hfz19_1); (try clear p2); (try clear p6); obtain ⟨x7_2, rfl, HA, HK2, BK401, HB⟩ := hrel
    cases gk with
    | zero => exact absurd HA.out (by simp [spec_VoltageValid.l0])
    | succ k2 =>
     have H := HA.out; clear HA; simp only [spec_VoltageValid.l0] at H
     by_cases c22 : x7_2 < (l2.length : Int)
     ·rw [if_pos c22] at H
      have c22b0 := dT c22; clear c22
      by_cases c23 : 0 ≤ x7_2
      ·rw [if_pos c23] at H
       have c23b0 := dT c23; clear c23; obtain ⟨t405, A24, H⟩ := zbind H
       by_cases c25 : t405 = true
       ·subst c25
        rw [if_pos rfl] at H
        by_cases c26 : ((rd_L1 l2 x7_2).length : Int) = a1
        ·rw [if_pos c26] at H
         have c26b0 : (((rd_L1 l2 x7_2).length : Int) == a1) = true := beq_iff_eq.mpr c26
         have c26b1 : (((rd_L1 l2 x7_2).length : Int) != a1) = false := bne_eq_false_iff_eq.mpr c26
         clear c26; have H' := A0_ H; clear H
         have p404 : 0 ≤ (x7_2 : Int) := zd
         have q404 : x7_2 < (l2.length : Int) := zd
         obtain ⟨ad404, A404_0, c404_0, e404, hx404_0, hl404_0, hi404_0⟩ := at_L1 HR2.out x7_2 p404 q404
         cases e404
         try replace hx404_0 := (HB.out.cell (wL w _ hx404_0)).trans hx404_0
         have HR404_0 := A0_ hi404_0; have HC404_0 := A0_ hl404_0; clear hi404_0 hl404_0; replace p404 := eq_true p404; replace q404 := eq_true q404
         go_wp2_with (first | ((with_reducible refine gC (f := 89) rfl ?_); refine zJ (some 43) Try.func89 #[.slice A404_0 (rd_L1 l2 x7_2).length c404_0] ?_; (with_reducible refine (spec_PermValid.calls k2 _ _ (rd_L1 l2 x7_2) true _ ?side1 ?side2 A24.out).mono ?_); (case side1 => exact zC HR404_0 HB); (case side2 => exact HC404_0.out); rintro e w' ⟨rfl, ⟨nd, rfl⟩⟩; refine ⟨_, rfl, ?_⟩; have p406 : 0 ≤ (x7_2 : Int) := zd; have q406 : x7_2 < (l2.length : Int) := zd; obtain ⟨ad406, A406_0, c406_0, e406, hx406_0, hl406_0, hi406_0⟩ := at_L1 HR2.out x7_2 p406 q406; obtain rfl : ad404 = ad406 := (by injection e406); try replace hx406_0 := (HB.out.cell (wL w _ hx406_0)).trans hx406_0; have HR406_0 := A0_ hi406_0; have HC406_0 := A0_ hl406_0; clear hi406_0 hl406_0; replace p406 := eq_true p406; replace q406 := eq_true q406; have ea_ := sI (hx404_0.symm.trans hx406_0); injection ea_ with ea_ en_ ec_; subst ea_; subst ec_; clear en_))
         go_roundg k2
         case measure => have := HJ3.out; have := HK2.out; omega
         case rel => exact ⟨(wrap64 (x7_2 + 1)), zt, H', ⟨by have := HJ3.out; have := HK2.out; omega⟩, ⟨zK_ BK401⟩, ⟨zB_ HB⟩⟩
        rw [if_neg c26] at H
        have c26b0 : (((rd_L1 l2 x7_2).length : Int) == a1) = false := beq_eq_false_iff_ne.mpr c26
        have c26b1 : (((rd_L1 l2 x7_2).length : Int) != a1) = true := bne_iff_ne.mpr c26
        obtain rfl := sI H
        have p404 : 0 ≤ (x7_2 : Int) := zd
        have q404 : x7_2 < (l2.length : Int) := zd
        obtain ⟨ad404, A404_0, c404_0, e404, hx404_0, hl404_0, hi404_0⟩ := at_L1 HR2.out x7_2 p404 q404
        cases e404
        try replace hx404_0 := (HB.out.cell (wL w _ hx404_0)).trans hx404_0
        have HR404_0 := A0_ hi404_0; have HC404_0 := A0_ hl404_0; clear hi404_0 hl404_0; replace p404 := eq_true p404; replace q404 := eq_true q404
        go_wp2_with (first | ((with_reducible refine gC (f := 89) rfl ?_); refine zJ (some 43) Try.func89 #[.slice A404_0 (rd_L1 l2 x7_2).length c404_0] ?_; (with_reducible refine (spec_PermValid.calls k2 _ _ (rd_L1 l2 x7_2) true _ ?side1 ?side2 A24.out).mono ?_); (case side1 => exact zC HR404_0 HB); (case side2 => exact HC404_0.out); rintro e w' ⟨rfl, ⟨nd, rfl⟩⟩; refine ⟨_, rfl, ?_⟩; have p406 : 0 ≤ (x7_2 : Int) := zd; have q406 : x7_2 < (l2.length : Int) := zd; obtain ⟨ad406, A406_0, c406_0, e406, hx406_0, hl406_0, hi406_0⟩ := at_L1 HR2.out x7_2 p406 q406; obtain rfl : ad404 = ad406 := (by injection e406); try replace hx406_0 := (HB.out.cell (wL w _ hx406_0)).trans hx406_0; have HR406_0 := A0_ hi406_0; have HC406_0 := A0_ hl406_0; clear hi406_0 hl406_0; replace p406 := eq_true p406; replace q406 := eq_true q406; have ea_ := sI (hx404_0.symm.trans hx406_0); injection ea_ with ea_ en_ ec_; subst ea_; subst ec_; clear en_))
        go_ret
        exact ⟨by first | rfl | (simp [*] <;> rfl), zB_ HB⟩
       replace c25 := Bool.eq_false_iff.mpr c25; subst c25
       rw [if_neg (show ¬ (false = true) by decide)] at H
       obtain rfl := sI H
       have p404 : 0 ≤ (x7_2 : Int) := zd
       have q404 : x7_2 < (l2.length : Int) := zd
       obtain ⟨ad404, A404_0, c404_0, e404, hx404_0, hl404_0, hi404_0⟩ := at_L1 HR2.out x7_2 p404 q404
       cases e404
       try replace hx404_0 := (HB.out.cell (wL w _ hx404_0)).trans hx404_0
       have HR404_0 := A0_ hi404_0; have HC404_0 := A0_ hl404_0; clear hi404_0 hl404_0; replace p404 := eq_true p404; replace q404 := eq_true q404
       go_wp2_with (first | ((with_reducible refine gC (f := 89) rfl ?_); refine zJ (some 43) Try.func89 #[.slice A404_0 (rd_L1 l2 x7_2).length c404_0] ?_; (with_reducible refine (spec_PermValid.calls k2 _ _ (rd_L1 l2 x7_2) false _ ?side1 ?side2 A24.out).mono ?_); (case side1 => exact zC HR404_0 HB); (case side2 => exact HC404_0.out); rintro e w' ⟨rfl, ⟨nd, rfl⟩⟩; refine ⟨_, rfl, ?_⟩))
       go_ret
       exact ⟨by first | rfl | (simp [*] <;> rfl), zB_ HB⟩
      rw [if_neg c23] at H
      exact absurd H (by simp)
     rw [if_neg c22] at H; have c22b0 := dF c22; clear c22; obtain rfl := sI H
     go_wp2
     go_ret
     exact ⟨by first | rfl | (simp [*] <;> rfl), zB_ HB⟩

end Go.Proofs.Ytmegggomhjgehaa.PFnDeck
