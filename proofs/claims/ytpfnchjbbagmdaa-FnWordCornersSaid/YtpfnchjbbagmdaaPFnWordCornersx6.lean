-- Made by a program of this session (wip/tools) out of the loaded program; not trusted: Lean checks it.
import Derived.Test.YtpfnchjbbagmdaaPFnWordCornersx0
import Derived.Test.YtpfnchjbbagmdaaPFnWordCornersx5
namespace Go.Proofs.Ytpfnchjbbagmdaa.PFnWordCorners
open Go.RowKit Go.Proofs.YtpfnchjbbagmdaaW.PrintWords Go.Proofs.YtpfnchjbbagmdaaW.PrintLast Go.Proofs.YtpfnchjbbagmdaaW.PrintMore
attribute [local go_sem] max2_int min2_int max_two min_two max_three min_three max_four min_four   -- for this text's walks alone
set_option linter.unusedVariables false
set_option linter.unusedSimpArgs false

/-! ### spec_l92Word: function 25 -/
def spec_l92Word.l0 : Nat → ByteArray → Int → Bool → Int → List Int → Int → Option (ByteArray × Int)
  | 0, _, _, _, _, _, _ => none
  | k + 1, x5, x6, x7, x8, x1000, x1001 => if x8 < x6 then ((spec_l6Rd_pick.f k x1000 x1001 2).bind fun bt209 => ((spec_l8Name.f x8 (bt209.1 == 0)).bind fun t211 => ((spec_l6Rd_pick.f k x1000 bt209.2 2).bind fun bt212 => ((spec_l8Name.f x8 (bt212.1 == 0)).bind fun t214 => (if x7 = true then (if 0 < (t211.size : Int) then ((spec_l8Other.f k (bt t211 0)).bind fun t215 => ((spec_l6Rd_pick.f k x1000 bt212.2 (wrap64 ((x5.size : Int) + 1))).bind fun bt216 => (if 0 ≤ bt216.1 then (if bt216.1 ≤ (x5.size : Int) then (if (x5.extract 0 (bt216.1 : Int).toNat).size + t211.size ≤ 9223372036854775807 then (if ((x5.extract 0 (bt216.1 : Int).toNat) ++ t211).size + (x5.extract (bt216.1 : Int).toNat x5.size).size ≤ 9223372036854775807 then ((spec_l6Rd_pick.f k x1000 bt216.2 (wrap64 (((((x5.extract 0 (bt216.1 : Int).toNat) ++ t211) ++ (x5.extract (bt216.1 : Int).toNat x5.size)).size : Int) + 1))).bind fun bt218 => (if 0 ≤ bt218.1 then (if bt218.1 ≤ ((((x5.extract 0 (bt216.1 : Int).toNat) ++ t211) ++ (x5.extract (bt216.1 : Int).toNat x5.size)).size : Int) then (if ((((x5.extract 0 (bt216.1 : Int).toNat) ++ t211) ++ (x5.extract (bt216.1 : Int).toNat x5.size)).extract 0 (bt218.1 : Int).toNat).size + t215.size ≤ 9223372036854775807 then (if (((((x5.extract 0 (bt216.1 : Int).toNat) ++ t211) ++ (x5.extract (bt216.1 : Int).toNat x5.size)).extract 0 (bt218.1 : Int).toNat) ++ t215).size + ((((x5.extract 0 (bt216.1 : Int).toNat) ++ t211) ++ (x5.extract (bt216.1 : Int).toNat x5.size)).extract (bt218.1 : Int).toNat (((x5.extract 0 (bt216.1 : Int).toNat) ++ t211) ++ (x5.extract (bt216.1 : Int).toNat x5.size)).size).size ≤ 9223372036854775807 then (spec_l92Word.l0 k ((((((x5.extract 0 (bt216.1 : Int).toNat) ++ t211) ++ (x5.extract (bt216.1 : Int).toNat x5.size)).extract 0 (bt218.1 : Int).toNat) ++ t215) ++ ((((x5.extract 0 (bt216.1 : Int).toNat) ++ t211) ++ (x5.extract (bt216.1 : Int).toNat x5.size)).extract (bt218.1 : Int).toNat (((x5.extract 0 (bt216.1 : Int).toNat) ++ t211) ++ (x5.extract (bt216.1 : Int).toNat x5.size)).size)) x6 x7 (wrap64 (x8 + 1)) x1000 bt218.2) else (none)) else (none)) else (none)) else (none))) else (none)) else (none)) else (none)) else (none)))) else (none)) else ((spec_l6Rd_pick.f k x1000 bt212.2 (wrap64 ((x5.size : Int) + 1))).bind fun bt220 => (if 0 ≤ bt220.1 then (if bt220.1 ≤ (x5.size : Int) then (if (x5.extract 0 (bt220.1 : Int).toNat).size + t211.size ≤ 9223372036854775807 then (if ((x5.extract 0 (bt220.1 : Int).toNat) ++ t211).size + (x5.extract (bt220.1 : Int).toNat x5.size).size ≤ 9223372036854775807 then ((spec_l6Rd_pick.f k x1000 bt220.2 (wrap64 (((((x5.extract 0 (bt220.1 : Int).toNat) ++ t211) ++ (x5.extract (bt220.1 : Int).toNat x5.size)).size : Int) + 1))).bind fun bt222 => (if 0 ≤ bt222.1 then (if bt222.1 ≤ ((((x5.extract 0 (bt220.1 : Int).toNat) ++ t211) ++ (x5.extract (bt220.1 : Int).toNat x5.size)).size : Int) then (if ((((x5.extract 0 (bt220.1 : Int).toNat) ++ t211) ++ (x5.extract (bt220.1 : Int).toNat x5.size)).extract 0 (bt222.1 : Int).toNat).size + t214.size ≤ 9223372036854775807 then (if (((((x5.extract 0 (bt220.1 : Int).toNat) ++ t211) ++ (x5.extract (bt220.1 : Int).toNat x5.size)).extract 0 (bt222.1 : Int).toNat) ++ t214).size + ((((x5.extract 0 (bt220.1 : Int).toNat) ++ t211) ++ (x5.extract (bt220.1 : Int).toNat x5.size)).extract (bt222.1 : Int).toNat (((x5.extract 0 (bt220.1 : Int).toNat) ++ t211) ++ (x5.extract (bt220.1 : Int).toNat x5.size)).size).size ≤ 9223372036854775807 then (spec_l92Word.l0 k ((((((x5.extract 0 (bt220.1 : Int).toNat) ++ t211) ++ (x5.extract (bt220.1 : Int).toNat x5.size)).extract 0 (bt222.1 : Int).toNat) ++ t214) ++ ((((x5.extract 0 (bt220.1 : Int).toNat) ++ t211) ++ (x5.extract (bt220.1 : Int).toNat x5.size)).extract (bt222.1 : Int).toNat (((x5.extract 0 (bt220.1 : Int).toNat) ++ t211) ++ (x5.extract (bt220.1 : Int).toNat x5.size)).size)) x6 x7 (wrap64 (x8 + 1)) x1000 bt222.2) else (none)) else (none)) else (none)) else (none))) else (none)) else (none)) else (none)) else (none)))))))) else ((spec_l6Rd_pick.f k x1000 x1001 24).bind fun bt224 => (if bt224.1 = 0 then ((spec_l6Rd_of.f k x1000 bt224.2 (([(⟨#[97]⟩ : ByteArray), (⟨#[102]⟩ : ByteArray), (⟨#[101, 101]⟩ : ByteArray), (⟨#[32]⟩ : ByteArray), (⟨#[65]⟩ : ByteArray)] : List ByteArray))).bind fun bt229 => (if x5.size + bt229.1.size ≤ 9223372036854775807 then (some ((x5 ++ bt229.1), bt229.2)) else (none))) else (some (x5, bt224.2))))
def spec_l92Word.f (k : Nat) (s0_0 : List Int) (s0_1 : Int) (a1 : Int) : Option (ByteArray × Int) := (spec_l6Rd_pick.f k s0_0 s0_1 a1).bind fun bt205 => ((spec_l6Rd_pick.f k s0_0 bt205.2 2).bind fun bt207 => (spec_l92Word.l0 k (⟨#[]⟩ : ByteArray) (wrap64 (1 + bt205.1)) (bt207.1 == 0) 0 s0_0 bt207.2))
set_option maxHeartbeats 8000000 in
set_option maxRecDepth 100000 in
theorem spec_l92Word.calls (k : Nat) (g : Nat) (s0_0 : List Int) (s0_1 : Int) (a1 : Int) (r1 : ByteArray) (r2 : Int) (w0 w : World) (hI : IsS58 w0 w g s0_0 s0_1) (hB : Below w0.heap.size w0 w) (h : spec_l92Word.f k s0_0 s0_1 a1 = some (r1, r2)) :
    Calls Try.prog 25 #[.pointer (some ⟨g, 0, none⟩), .int .i64 a1] w fun e w' => e = .returned (.string r1) ∧ IsS58 w0 w' g s0_0 r2 ∧ Below w0.heap.size w0 w' ∧ KeepBut w w' g none := by
 have HI0 := Aside0.mk hI
 have HK := Aside0.mk (KeepBut.refl w g none)
 have HL := Aside0.mk hB.size
 clear hI
 have HW0 := Aside0.mk hB.size
 have HB := Aside0.mk hB
 clear hB
 have H : ((spec_l6Rd_pick.f k s0_0 s0_1 a1).bind fun bt205 => ((spec_l6Rd_pick.f k s0_0 bt205.2 2).bind fun bt207 => (spec_l92Word.l0 k (⟨#[]⟩ : ByteArray) (wrap64 (1 + bt205.1)) (bt207.1 == 0) 0 s0_0 bt207.2))) = some (r1, r2) := h
 clear h
 replace H := Option.bind_eq_some_iff.mp H
 obtain ⟨⟨t205, t206⟩, A30, H⟩ := H
 replace H : ((spec_l6Rd_pick.f k s0_0 t206 2).bind fun bt207 => (spec_l92Word.l0 k (⟨#[]⟩ : ByteArray) (wrap64 (1 + t205)) (bt207.1 == 0) 0 s0_0 bt207.2)) = some (r1, r2) := H
 have A3 := Aside0.mk A30
 clear A30
 replace H := Option.bind_eq_some_iff.mp H
 obtain ⟨⟨t207, t208⟩, A40, H⟩ := H
 replace H : (spec_l92Word.l0 k (⟨#[]⟩ : ByteArray) (wrap64 (1 + t205)) (t207 == 0) 0 s0_0 t208) = some (r1, r2) := H
 have A4 := Aside0.mk A40
 clear A40
 obtain ⟨bq5, hbq5⟩ : ∃ j_ : Bool, (t207 == 0) = j_ := ⟨_, rfl⟩
 replace H : (spec_l92Word.l0 k (⟨#[]⟩ : ByteArray) (wrap64 (1 + t205)) bq5 0 s0_0 t208) = some (r1, r2) := by first | (rw [hbq5] at H; exact H) | (simp only [hbq5] at H ⊢; exact H) | exact H
 (try rw [hbq5] at A3)
 (try rw [hbq5] at A4)
 have H' := Aside0.mk H
 clear H
 go_enter Try.func25, Try.ntmps25
 go_wp2_with (first | (go_at_call 41; (with_reducible refine (spec_l6Rd_pick.calls k g s0_0 s0_1 a1 t205 t206 w0 _ ?side1 ?side2 A3.out).mono ?_); (case side1 => repeat (first | (with_reducible first | exact HI0.out | apply IsS58.alloc | apply IsS58.drewN | apply IsS58.drew | apply IsS58.set_1) | exact HI0.out)); (case side2 => repeat (first | (with_reducible first | exact HB.out | apply below_alloc | apply pw_below_drewN | apply below_drew1 | refine below_set ?_ (IsS58.ge HI0.out)) | exact HB.out)); rintro e w6 ⟨rfl, hi, hb, hk⟩; have n0_ := Aside0.mk (KeepBut.trans (by repeat (first | (with_reducible first | exact HK.out | apply KeepBut.set_ | apply keep_drewN | apply keep_drew | apply keep_alloc) | exact HK.out)) hk (.inl rfl)); have n1_ := Aside0.mk (hb); have n2_ := Aside0.mk (hi); clear HK; clear HB; clear HI0; have HK := n0_; have HB := n1_; have HI0 := n2_; clear n0_ n1_ n2_; (try clear hb); (try clear hb2); (try clear hk); (try clear hi)) | (go_at_call 41; (with_reducible refine (spec_l6Rd_pick.calls k g s0_0 t206 2 t207 t208 w0 _ ?side1 ?side2 A4.out).mono ?_); (case side1 => repeat (first | (with_reducible first | exact HI0.out | apply IsS58.alloc | apply IsS58.drewN | apply IsS58.drew | apply IsS58.set_1) | exact HI0.out)); (case side2 => repeat (first | (with_reducible first | exact HB.out | apply below_alloc | apply pw_below_drewN | apply below_drew1 | refine below_set ?_ (IsS58.ge HI0.out)) | exact HB.out)); rintro e w7 ⟨rfl, hi, hb, hk⟩; have n0_ := Aside0.mk (KeepBut.trans (by repeat (first | (with_reducible first | exact HK.out | apply KeepBut.set_ | apply keep_drewN | apply keep_drew | apply keep_alloc) | exact HK.out)) hk (.inl rfl)); have n1_ := Aside0.mk (hb); have n2_ := Aside0.mk (hi); clear HK; clear HB; clear HI0; have HK := n0_; have HB := n1_; have HI0 := n2_; clear n0_ n1_ n2_; (try clear hb); (try clear hb2); (try clear hk); (try clear hi)))
 repeat (go_quiet (first | (go_at_call 41; (with_reducible refine (spec_l6Rd_pick.calls k g s0_0 s0_1 a1 t205 t206 w0 _ ?side1 ?side2 A3.out).mono ?_); (case side1 => repeat (first | (with_reducible first | exact HI0.out | apply IsS58.alloc | apply IsS58.drewN | apply IsS58.drew | apply IsS58.set_1) | exact HI0.out)); (case side2 => repeat (first | (with_reducible first | exact HB.out | apply below_alloc | apply pw_below_drewN | apply below_drew1 | refine below_set ?_ (IsS58.ge HI0.out)) | exact HB.out)); rintro e w6 ⟨rfl, hi, hb, hk⟩; have n0_ := Aside0.mk (KeepBut.trans (by repeat (first | (with_reducible first | exact HK.out | apply KeepBut.set_ | apply keep_drewN | apply keep_drew | apply keep_alloc) | exact HK.out)) hk (.inl rfl)); have n1_ := Aside0.mk (hb); have n2_ := Aside0.mk (hi); clear HK; clear HB; clear HI0; have HK := n0_; have HB := n1_; have HI0 := n2_; clear n0_ n1_ n2_; (try clear hb); (try clear hb2); (try clear hk); (try clear hi)) | (go_at_call 41; (with_reducible refine (spec_l6Rd_pick.calls k g s0_0 t206 2 t207 t208 w0 _ ?side1 ?side2 A4.out).mono ?_); (case side1 => repeat (first | (with_reducible first | exact HI0.out | apply IsS58.alloc | apply IsS58.drewN | apply IsS58.drew | apply IsS58.set_1) | exact HI0.out)); (case side2 => repeat (first | (with_reducible first | exact HB.out | apply below_alloc | apply pw_below_drewN | apply below_drew1 | refine below_set ?_ (IsS58.ge HI0.out)) | exact HB.out)); rintro e w7 ⟨rfl, hi, hb, hk⟩; have n0_ := Aside0.mk (KeepBut.trans (by repeat (first | (with_reducible first | exact HK.out | apply KeepBut.set_ | apply keep_drewN | apply keep_drew | apply keep_alloc) | exact HK.out)) hk (.inl rfl)); have n1_ := Aside0.mk (hb); have n2_ := Aside0.mk (hi); clear HK; clear HB; clear HI0; have HK := n0_; have HB := n1_; have HI0 := n2_; clear n0_ n1_ n2_; (try clear hb); (try clear hb2); (try clear hk); (try clear hi))); try go_wp2_with (first | (go_at_call 41; (with_reducible refine (spec_l6Rd_pick.calls k g s0_0 s0_1 a1 t205 t206 w0 _ ?side1 ?side2 A3.out).mono ?_); (case side1 => repeat (first | (with_reducible first | exact HI0.out | apply IsS58.alloc | apply IsS58.drewN | apply IsS58.drew | apply IsS58.set_1) | exact HI0.out)); (case side2 => repeat (first | (with_reducible first | exact HB.out | apply below_alloc | apply pw_below_drewN | apply below_drew1 | refine below_set ?_ (IsS58.ge HI0.out)) | exact HB.out)); rintro e w6 ⟨rfl, hi, hb, hk⟩; have n0_ := Aside0.mk (KeepBut.trans (by repeat (first | (with_reducible first | exact HK.out | apply KeepBut.set_ | apply keep_drewN | apply keep_drew | apply keep_alloc) | exact HK.out)) hk (.inl rfl)); have n1_ := Aside0.mk (hb); have n2_ := Aside0.mk (hi); clear HK; clear HB; clear HI0; have HK := n0_; have HB := n1_; have HI0 := n2_; clear n0_ n1_ n2_; (try clear hb); (try clear hb2); (try clear hk); (try clear hi)) | (go_at_call 41; (with_reducible refine (spec_l6Rd_pick.calls k g s0_0 t206 2 t207 t208 w0 _ ?side1 ?side2 A4.out).mono ?_); (case side1 => repeat (first | (with_reducible first | exact HI0.out | apply IsS58.alloc | apply IsS58.drewN | apply IsS58.drew | apply IsS58.set_1) | exact HI0.out)); (case side2 => repeat (first | (with_reducible first | exact HB.out | apply below_alloc | apply pw_below_drewN | apply below_drew1 | refine below_set ?_ (IsS58.ge HI0.out)) | exact HB.out)); rintro e w7 ⟨rfl, hi, hb, hk⟩; have n0_ := Aside0.mk (KeepBut.trans (by repeat (first | (with_reducible first | exact HK.out | apply KeepBut.set_ | apply keep_drewN | apply keep_drew | apply keep_alloc) | exact HK.out)) hk (.inl rfl)); have n1_ := Aside0.mk (hb); have n2_ := Aside0.mk (hi); clear HK; clear HB; clear HI0; have HK := n0_; have HB := n1_; have HI0 := n2_; clear n0_ n1_ n2_; (try clear hb); (try clear hb2); (try clear hk); (try clear hi))))
 go_loopg [5, 8] k (fun kq v5 v8 w' => ∃ (x5_1 : ByteArray) (x8_1 : Int) (x1001_1 : Int), v5 = .string x5_1 ∧ v8 = .int .i64 x8_1 ∧ Aside0 (spec_l92Word.l0 kq x5_1 (wrap64 (1 + t205)) bq5 x8_1 s0_0 x1001_1 = some (r1, r2)) ∧ Aside0 (kq ≤ k) ∧ Aside0 (IsS58 w0 w' g s0_0 x1001_1) ∧ Aside0 (KeepBut w w' g none) ∧ Aside0 (Below w0.heap.size w0 w'))
 case atStart => exact ⟨((⟨#[]⟩ : ByteArray)), (0), (t208), (by first | rfl | (simp; done) | (simp [*]; done)), (by first | rfl | (simp; done) | (simp [*]; done)), H', ⟨Nat.le_refl _⟩, ⟨by repeat (first | (with_reducible first | exact HI0.out | apply IsS58.alloc | apply IsS58.drewN | apply IsS58.drew | apply IsS58.set_1) | exact HI0.out)⟩, ⟨by repeat (first | (with_reducible first | exact HK.out | apply KeepBut.set_ | apply keep_drewN | apply keep_drew | apply keep_alloc) | exact HK.out)⟩, ⟨by repeat (first | (with_reducible first | exact HB.out | apply below_alloc | apply pw_below_drewN | apply below_drew1 | refine below_set ?_ (IsS58.ge HI0.out)) | exact HB.out)⟩⟩
 case round =>
  clear H'
  try clear c2
  try clear p2
  try clear q5
  try clear p6
  obtain ⟨x5_1, x8_1, x1001_1, rfl, rfl, HA, HK1, HI0, HK, HB⟩ := hrel
  cases gk with
  | zero => exact absurd HA.out (by simp [spec_l92Word.l0])
  | succ k1 =>
   have H := HA.out
   clear HA
   simp only [spec_l92Word.l0] at H
   by_cases c8 : x8_1 < (wrap64 (1 + t205))
   ·rw [if_pos c8] at H
    have c8b0 : decide (x8_1 < (wrap64 (1 + t205))) = true := decide_eq_true c8
    clear c8
    replace H := Option.bind_eq_some_iff.mp H
    obtain ⟨⟨t209, t210⟩, A90, H⟩ := H
    replace H : ((spec_l8Name.f x8_1 (t209 == 0)).bind fun t211 => ((spec_l6Rd_pick.f k1 s0_0 t210 2).bind fun bt212 => ((spec_l8Name.f x8_1 (bt212.1 == 0)).bind fun t214 => (if bq5 = true then (if 0 < (t211.size : Int) then ((spec_l8Other.f k1 (bt t211 0)).bind fun t215 => ((spec_l6Rd_pick.f k1 s0_0 bt212.2 (wrap64 ((x5_1.size : Int) + 1))).bind fun bt216 => (if 0 ≤ bt216.1 then (if bt216.1 ≤ (x5_1.size : Int) then (if (x5_1.extract 0 (bt216.1 : Int).toNat).size + t211.size ≤ 9223372036854775807 then (if ((x5_1.extract 0 (bt216.1 : Int).toNat) ++ t211).size + (x5_1.extract (bt216.1 : Int).toNat x5_1.size).size ≤ 9223372036854775807 then ((spec_l6Rd_pick.f k1 s0_0 bt216.2 (wrap64 (((((x5_1.extract 0 (bt216.1 : Int).toNat) ++ t211) ++ (x5_1.extract (bt216.1 : Int).toNat x5_1.size)).size : Int) + 1))).bind fun bt218 => (if 0 ≤ bt218.1 then (if bt218.1 ≤ ((((x5_1.extract 0 (bt216.1 : Int).toNat) ++ t211) ++ (x5_1.extract (bt216.1 : Int).toNat x5_1.size)).size : Int) then (if ((((x5_1.extract 0 (bt216.1 : Int).toNat) ++ t211) ++ (x5_1.extract (bt216.1 : Int).toNat x5_1.size)).extract 0 (bt218.1 : Int).toNat).size + t215.size ≤ 9223372036854775807 then (if (((((x5_1.extract 0 (bt216.1 : Int).toNat) ++ t211) ++ (x5_1.extract (bt216.1 : Int).toNat x5_1.size)).extract 0 (bt218.1 : Int).toNat) ++ t215).size + ((((x5_1.extract 0 (bt216.1 : Int).toNat) ++ t211) ++ (x5_1.extract (bt216.1 : Int).toNat x5_1.size)).extract (bt218.1 : Int).toNat (((x5_1.extract 0 (bt216.1 : Int).toNat) ++ t211) ++ (x5_1.extract (bt216.1 : Int).toNat x5_1.size)).size).size ≤ 9223372036854775807 then (spec_l92Word.l0 k1 ((((((x5_1.extract 0 (bt216.1 : Int).toNat) ++ t211) ++ (x5_1.extract (bt216.1 : Int).toNat x5_1.size)).extract 0 (bt218.1 : Int).toNat) ++ t215) ++ ((((x5_1.extract 0 (bt216.1 : Int).toNat) ++ t211) ++ (x5_1.extract (bt216.1 : Int).toNat x5_1.size)).extract (bt218.1 : Int).toNat (((x5_1.extract 0 (bt216.1 : Int).toNat) ++ t211) ++ (x5_1.extract (bt216.1 : Int).toNat x5_1.size)).size)) (wrap64 (1 + t205)) bq5 (wrap64 (x8_1 + 1)) s0_0 bt218.2) else (none)) else (none)) else (none)) else (none))) else (none)) else (none)) else (none)) else (none)))) else (none)) else ((spec_l6Rd_pick.f k1 s0_0 bt212.2 (wrap64 ((x5_1.size : Int) + 1))).bind fun bt220 => (if 0 ≤ bt220.1 then (if bt220.1 ≤ (x5_1.size : Int) then (if (x5_1.extract 0 (bt220.1 : Int).toNat).size + t211.size ≤ 9223372036854775807 then (if ((x5_1.extract 0 (bt220.1 : Int).toNat) ++ t211).size + (x5_1.extract (bt220.1 : Int).toNat x5_1.size).size ≤ 9223372036854775807 then ((spec_l6Rd_pick.f k1 s0_0 bt220.2 (wrap64 (((((x5_1.extract 0 (bt220.1 : Int).toNat) ++ t211) ++ (x5_1.extract (bt220.1 : Int).toNat x5_1.size)).size : Int) + 1))).bind fun bt222 => (if 0 ≤ bt222.1 then (if bt222.1 ≤ ((((x5_1.extract 0 (bt220.1 : Int).toNat) ++ t211) ++ (x5_1.extract (bt220.1 : Int).toNat x5_1.size)).size : Int) then (if ((((x5_1.extract 0 (bt220.1 : Int).toNat) ++ t211) ++ (x5_1.extract (bt220.1 : Int).toNat x5_1.size)).extract 0 (bt222.1 : Int).toNat).size + t214.size ≤ 9223372036854775807 then (if (((((x5_1.extract 0 (bt220.1 : Int).toNat) ++ t211) ++ (x5_1.extract (bt220.1 : Int).toNat x5_1.size)).extract 0 (bt222.1 : Int).toNat) ++ t214).size + ((((x5_1.extract 0 (bt220.1 : Int).toNat) ++ t211) ++ (x5_1.extract (bt220.1 : Int).toNat x5_1.size)).extract (bt222.1 : Int).toNat (((x5_1.extract 0 (bt220.1 : Int).toNat) ++ t211) ++ (x5_1.extract (bt220.1 : Int).toNat x5_1.size)).size).size ≤ 9223372036854775807 then (spec_l92Word.l0 k1 ((((((x5_1.extract 0 (bt220.1 : Int).toNat) ++ t211) ++ (x5_1.extract (bt220.1 : Int).toNat x5_1.size)).extract 0 (bt222.1 : Int).toNat) ++ t214) ++ ((((x5_1.extract 0 (bt220.1 : Int).toNat) ++ t211) ++ (x5_1.extract (bt220.1 : Int).toNat x5_1.size)).extract (bt222.1 : Int).toNat (((x5_1.extract 0 (bt220.1 : Int).toNat) ++ t211) ++ (x5_1.extract (bt220.1 : Int).toNat x5_1.size)).size)) (wrap64 (1 + t205)) bq5 (wrap64 (x8_1 + 1)) s0_0 bt222.2) else (none)) else (none)) else (none)) else (none))) else (none)) else (none)) else (none)) else (none))))))) = some (r1, r2) := H
    have A9 := Aside0.mk A90
    clear A90
    replace H := Option.bind_eq_some_iff.mp H
    obtain ⟨t211, A100, H⟩ := H
    replace H : ((spec_l6Rd_pick.f k1 s0_0 t210 2).bind fun bt212 => ((spec_l8Name.f x8_1 (bt212.1 == 0)).bind fun t214 => (if bq5 = true then (if 0 < (t211.size : Int) then ((spec_l8Other.f k1 (bt t211 0)).bind fun t215 => ((spec_l6Rd_pick.f k1 s0_0 bt212.2 (wrap64 ((x5_1.size : Int) + 1))).bind fun bt216 => (if 0 ≤ bt216.1 then (if bt216.1 ≤ (x5_1.size : Int) then (if (x5_1.extract 0 (bt216.1 : Int).toNat).size + t211.size ≤ 9223372036854775807 then (if ((x5_1.extract 0 (bt216.1 : Int).toNat) ++ t211).size + (x5_1.extract (bt216.1 : Int).toNat x5_1.size).size ≤ 9223372036854775807 then ((spec_l6Rd_pick.f k1 s0_0 bt216.2 (wrap64 (((((x5_1.extract 0 (bt216.1 : Int).toNat) ++ t211) ++ (x5_1.extract (bt216.1 : Int).toNat x5_1.size)).size : Int) + 1))).bind fun bt218 => (if 0 ≤ bt218.1 then (if bt218.1 ≤ ((((x5_1.extract 0 (bt216.1 : Int).toNat) ++ t211) ++ (x5_1.extract (bt216.1 : Int).toNat x5_1.size)).size : Int) then (if ((((x5_1.extract 0 (bt216.1 : Int).toNat) ++ t211) ++ (x5_1.extract (bt216.1 : Int).toNat x5_1.size)).extract 0 (bt218.1 : Int).toNat).size + t215.size ≤ 9223372036854775807 then (if (((((x5_1.extract 0 (bt216.1 : Int).toNat) ++ t211) ++ (x5_1.extract (bt216.1 : Int).toNat x5_1.size)).extract 0 (bt218.1 : Int).toNat) ++ t215).size + ((((x5_1.extract 0 (bt216.1 : Int).toNat) ++ t211) ++ (x5_1.extract (bt216.1 : Int).toNat x5_1.size)).extract (bt218.1 : Int).toNat (((x5_1.extract 0 (bt216.1 : Int).toNat) ++ t211) ++ (x5_1.extract (bt216.1 : Int).toNat x5_1.size)).size).size ≤ 9223372036854775807 then (spec_l92Word.l0 k1 ((((((x5_1.extract 0 (bt216.1 : Int).toNat) ++ t211) ++ (x5_1.extract (bt216.1 : Int).toNat x5_1.size)).extract 0 (bt218.1 : Int).toNat) ++ t215) ++ ((((x5_1.extract 0 (bt216.1 : Int).toNat) ++ t211) ++ (x5_1.extract (bt216.1 : Int).toNat x5_1.size)).extract (bt218.1 : Int).toNat (((x5_1.extract 0 (bt216.1 : Int).toNat) ++ t211) ++ (x5_1.extract (bt216.1 : Int).toNat x5_1.size)).size)) (wrap64 (1 + t205)) bq5 (wrap64 (x8_1 + 1)) s0_0 bt218.2) else (none)) else (none)) else (none)) else (none))) else (none)) else (none)) else (none)) else (none)))) else (none)) else ((spec_l6Rd_pick.f k1 s0_0 bt212.2 (wrap64 ((x5_1.size : Int) + 1))).bind fun bt220 => (if 0 ≤ bt220.1 then (if bt220.1 ≤ (x5_1.size : Int) then (if (x5_1.extract 0 (bt220.1 : Int).toNat).size + t211.size ≤ 9223372036854775807 then (if ((x5_1.extract 0 (bt220.1 : Int).toNat) ++ t211).size + (x5_1.extract (bt220.1 : Int).toNat x5_1.size).size ≤ 9223372036854775807 then ((spec_l6Rd_pick.f k1 s0_0 bt220.2 (wrap64 (((((x5_1.extract 0 (bt220.1 : Int).toNat) ++ t211) ++ (x5_1.extract (bt220.1 : Int).toNat x5_1.size)).size : Int) + 1))).bind fun bt222 => (if 0 ≤ bt222.1 then (if bt222.1 ≤ ((((x5_1.extract 0 (bt220.1 : Int).toNat) ++ t211) ++ (x5_1.extract (bt220.1 : Int).toNat x5_1.size)).size : Int) then (if ((((x5_1.extract 0 (bt220.1 : Int).toNat) ++ t211) ++ (x5_1.extract (bt220.1 : Int).toNat x5_1.size)).extract 0 (bt222.1 : Int).toNat).size + t214.size ≤ 9223372036854775807 then (if (((((x5_1.extract 0 (bt220.1 : Int).toNat) ++ t211) ++ (x5_1.extract (bt220.1 : Int).toNat x5_1.size)).extract 0 (bt222.1 : Int).toNat) ++ t214).size + ((((x5_1.extract 0 (bt220.1 : Int).toNat) ++ t211) ++ (x5_1.extract (bt220.1 : Int).toNat x5_1.size)).extract (bt222.1 : Int).toNat (((x5_1.extract 0 (bt220.1 : Int).toNat) ++ t211) ++ (x5_1.extract (bt220.1 : Int).toNat x5_1.size)).size).size ≤ 9223372036854775807 then (spec_l92Word.l0 k1 ((((((x5_1.extract 0 (bt220.1 : Int).toNat) ++ t211) ++ (x5_1.extract (bt220.1 : Int).toNat x5_1.size)).extract 0 (bt222.1 : Int).toNat) ++ t214) ++ ((((x5_1.extract 0 (bt220.1 : Int).toNat) ++ t211) ++ (x5_1.extract (bt220.1 : Int).toNat x5_1.size)).extract (bt222.1 : Int).toNat (((x5_1.extract 0 (bt220.1 : Int).toNat) ++ t211) ++ (x5_1.extract (bt220.1 : Int).toNat x5_1.size)).size)) (wrap64 (1 + t205)) bq5 (wrap64 (x8_1 + 1)) s0_0 bt222.2) else (none)) else (none)) else (none)) else (none))) else (none)) else (none)) else (none)) else (none)))))) = some (r1, r2) := H
    have A10 := Aside0.mk A100
    clear A100
    replace H := Option.bind_eq_some_iff.mp H
    obtain ⟨⟨t212, t213⟩, A110, H⟩ := H
    replace H : ((spec_l8Name.f x8_1 (t212 == 0)).bind fun t214 => (if bq5 = true then (if 0 < (t211.size : Int) then ((spec_l8Other.f k1 (bt t211 0)).bind fun t215 => ((spec_l6Rd_pick.f k1 s0_0 t213 (wrap64 ((x5_1.size : Int) + 1))).bind fun bt216 => (if 0 ≤ bt216.1 then (if bt216.1 ≤ (x5_1.size : Int) then (if (x5_1.extract 0 (bt216.1 : Int).toNat).size + t211.size ≤ 9223372036854775807 then (if ((x5_1.extract 0 (bt216.1 : Int).toNat) ++ t211).size + (x5_1.extract (bt216.1 : Int).toNat x5_1.size).size ≤ 9223372036854775807 then ((spec_l6Rd_pick.f k1 s0_0 bt216.2 (wrap64 (((((x5_1.extract 0 (bt216.1 : Int).toNat) ++ t211) ++ (x5_1.extract (bt216.1 : Int).toNat x5_1.size)).size : Int) + 1))).bind fun bt218 => (if 0 ≤ bt218.1 then (if bt218.1 ≤ ((((x5_1.extract 0 (bt216.1 : Int).toNat) ++ t211) ++ (x5_1.extract (bt216.1 : Int).toNat x5_1.size)).size : Int) then (if ((((x5_1.extract 0 (bt216.1 : Int).toNat) ++ t211) ++ (x5_1.extract (bt216.1 : Int).toNat x5_1.size)).extract 0 (bt218.1 : Int).toNat).size + t215.size ≤ 9223372036854775807 then (if (((((x5_1.extract 0 (bt216.1 : Int).toNat) ++ t211) ++ (x5_1.extract (bt216.1 : Int).toNat x5_1.size)).extract 0 (bt218.1 : Int).toNat) ++ t215).size + ((((x5_1.extract 0 (bt216.1 : Int).toNat) ++ t211) ++ (x5_1.extract (bt216.1 : Int).toNat x5_1.size)).extract (bt218.1 : Int).toNat (((x5_1.extract 0 (bt216.1 : Int).toNat) ++ t211) ++ (x5_1.extract (bt216.1 : Int).toNat x5_1.size)).size).size ≤ 9223372036854775807 then (spec_l92Word.l0 k1 ((((((x5_1.extract 0 (bt216.1 : Int).toNat) ++ t211) ++ (x5_1.extract (bt216.1 : Int).toNat x5_1.size)).extract 0 (bt218.1 : Int).toNat) ++ t215) ++ ((((x5_1.extract 0 (bt216.1 : Int).toNat) ++ t211) ++ (x5_1.extract (bt216.1 : Int).toNat x5_1.size)).extract (bt218.1 : Int).toNat (((x5_1.extract 0 (bt216.1 : Int).toNat) ++ t211) ++ (x5_1.extract (bt216.1 : Int).toNat x5_1.size)).size)) (wrap64 (1 + t205)) bq5 (wrap64 (x8_1 + 1)) s0_0 bt218.2) else (none)) else (none)) else (none)) else (none))) else (none)) else (none)) else (none)) else (none)))) else (none)) else ((spec_l6Rd_pick.f k1 s0_0 t213 (wrap64 ((x5_1.size : Int) + 1))).bind fun bt220 => (if 0 ≤ bt220.1 then (if bt220.1 ≤ (x5_1.size : Int) then (if (x5_1.extract 0 (bt220.1 : Int).toNat).size + t211.size ≤ 9223372036854775807 then (if ((x5_1.extract 0 (bt220.1 : Int).toNat) ++ t211).size + (x5_1.extract (bt220.1 : Int).toNat x5_1.size).size ≤ 9223372036854775807 then ((spec_l6Rd_pick.f k1 s0_0 bt220.2 (wrap64 (((((x5_1.extract 0 (bt220.1 : Int).toNat) ++ t211) ++ (x5_1.extract (bt220.1 : Int).toNat x5_1.size)).size : Int) + 1))).bind fun bt222 => (if 0 ≤ bt222.1 then (if bt222.1 ≤ ((((x5_1.extract 0 (bt220.1 : Int).toNat) ++ t211) ++ (x5_1.extract (bt220.1 : Int).toNat x5_1.size)).size : Int) then (if ((((x5_1.extract 0 (bt220.1 : Int).toNat) ++ t211) ++ (x5_1.extract (bt220.1 : Int).toNat x5_1.size)).extract 0 (bt222.1 : Int).toNat).size + t214.size ≤ 9223372036854775807 then (if (((((x5_1.extract 0 (bt220.1 : Int).toNat) ++ t211) ++ (x5_1.extract (bt220.1 : Int).toNat x5_1.size)).extract 0 (bt222.1 : Int).toNat) ++ t214).size + ((((x5_1.extract 0 (bt220.1 : Int).toNat) ++ t211) ++ (x5_1.extract (bt220.1 : Int).toNat x5_1.size)).extract (bt222.1 : Int).toNat (((x5_1.extract 0 (bt220.1 : Int).toNat) ++ t211) ++ (x5_1.extract (bt220.1 : Int).toNat x5_1.size)).size).size ≤ 9223372036854775807 then (spec_l92Word.l0 k1 ((((((x5_1.extract 0 (bt220.1 : Int).toNat) ++ t211) ++ (x5_1.extract (bt220.1 : Int).toNat x5_1.size)).extract 0 (bt222.1 : Int).toNat) ++ t214) ++ ((((x5_1.extract 0 (bt220.1 : Int).toNat) ++ t211) ++ (x5_1.extract (bt220.1 : Int).toNat x5_1.size)).extract (bt222.1 : Int).toNat (((x5_1.extract 0 (bt220.1 : Int).toNat) ++ t211) ++ (x5_1.extract (bt220.1 : Int).toNat x5_1.size)).size)) (wrap64 (1 + t205)) bq5 (wrap64 (x8_1 + 1)) s0_0 bt222.2) else (none)) else (none)) else (none)) else (none))) else (none)) else (none)) else (none)) else (none))))) = some (r1, r2) := H
    have A11 := Aside0.mk A110
    clear A110
    replace H := Option.bind_eq_some_iff.mp H
    obtain ⟨t214, A120, H⟩ := H
    replace H : (if bq5 = true then (if 0 < (t211.size : Int) then ((spec_l8Other.f k1 (bt t211 0)).bind fun t215 => ((spec_l6Rd_pick.f k1 s0_0 t213 (wrap64 ((x5_1.size : Int) + 1))).bind fun bt216 => (if 0 ≤ bt216.1 then (if bt216.1 ≤ (x5_1.size : Int) then (if (x5_1.extract 0 (bt216.1 : Int).toNat).size + t211.size ≤ 9223372036854775807 then (if ((x5_1.extract 0 (bt216.1 : Int).toNat) ++ t211).size + (x5_1.extract (bt216.1 : Int).toNat x5_1.size).size ≤ 9223372036854775807 then ((spec_l6Rd_pick.f k1 s0_0 bt216.2 (wrap64 (((((x5_1.extract 0 (bt216.1 : Int).toNat) ++ t211) ++ (x5_1.extract (bt216.1 : Int).toNat x5_1.size)).size : Int) + 1))).bind fun bt218 => (if 0 ≤ bt218.1 then (if bt218.1 ≤ ((((x5_1.extract 0 (bt216.1 : Int).toNat) ++ t211) ++ (x5_1.extract (bt216.1 : Int).toNat x5_1.size)).size : Int) then (if ((((x5_1.extract 0 (bt216.1 : Int).toNat) ++ t211) ++ (x5_1.extract (bt216.1 : Int).toNat x5_1.size)).extract 0 (bt218.1 : Int).toNat).size + t215.size ≤ 9223372036854775807 then (if (((((x5_1.extract 0 (bt216.1 : Int).toNat) ++ t211) ++ (x5_1.extract (bt216.1 : Int).toNat x5_1.size)).extract 0 (bt218.1 : Int).toNat) ++ t215).size + ((((x5_1.extract 0 (bt216.1 : Int).toNat) ++ t211) ++ (x5_1.extract (bt216.1 : Int).toNat x5_1.size)).extract (bt218.1 : Int).toNat (((x5_1.extract 0 (bt216.1 : Int).toNat) ++ t211) ++ (x5_1.extract (bt216.1 : Int).toNat x5_1.size)).size).size ≤ 9223372036854775807 then (spec_l92Word.l0 k1 ((((((x5_1.extract 0 (bt216.1 : Int).toNat) ++ t211) ++ (x5_1.extract (bt216.1 : Int).toNat x5_1.size)).extract 0 (bt218.1 : Int).toNat) ++ t215) ++ ((((x5_1.extract 0 (bt216.1 : Int).toNat) ++ t211) ++ (x5_1.extract (bt216.1 : Int).toNat x5_1.size)).extract (bt218.1 : Int).toNat (((x5_1.extract 0 (bt216.1 : Int).toNat) ++ t211) ++ (x5_1.extract (bt216.1 : Int).toNat x5_1.size)).size)) (wrap64 (1 + t205)) bq5 (wrap64 (x8_1 + 1)) s0_0 bt218.2) else (none)) else (none)) else (none)) else (none))) else (none)) else (none)) else (none)) else (none)))) else (none)) else ((spec_l6Rd_pick.f k1 s0_0 t213 (wrap64 ((x5_1.size : Int) + 1))).bind fun bt220 => (if 0 ≤ bt220.1 then (if bt220.1 ≤ (x5_1.size : Int) then (if (x5_1.extract 0 (bt220.1 : Int).toNat).size + t211.size ≤ 9223372036854775807 then (if ((x5_1.extract 0 (bt220.1 : Int).toNat) ++ t211).size + (x5_1.extract (bt220.1 : Int).toNat x5_1.size).size ≤ 9223372036854775807 then ((spec_l6Rd_pick.f k1 s0_0 bt220.2 (wrap64 (((((x5_1.extract 0 (bt220.1 : Int).toNat) ++ t211) ++ (x5_1.extract (bt220.1 : Int).toNat x5_1.size)).size : Int) + 1))).bind fun bt222 => (if 0 ≤ bt222.1 then (if bt222.1 ≤ ((((x5_1.extract 0 (bt220.1 : Int).toNat) ++ t211) ++ (x5_1.extract (bt220.1 : Int).toNat x5_1.size)).size : Int) then (if ((((x5_1.extract 0 (bt220.1 : Int).toNat) ++ t211) ++ (x5_1.extract (bt220.1 : Int).toNat x5_1.size)).extract 0 (bt222.1 : Int).toNat).size + t214.size ≤ 9223372036854775807 then (if (((((x5_1.extract 0 (bt220.1 : Int).toNat) ++ t211) ++ (x5_1.extract (bt220.1 : Int).toNat x5_1.size)).extract 0 (bt222.1 : Int).toNat) ++ t214).size + ((((x5_1.extract 0 (bt220.1 : Int).toNat) ++ t211) ++ (x5_1.extract (bt220.1 : Int).toNat x5_1.size)).extract (bt222.1 : Int).toNat (((x5_1.extract 0 (bt220.1 : Int).toNat) ++ t211) ++ (x5_1.extract (bt220.1 : Int).toNat x5_1.size)).size).size ≤ 9223372036854775807 then (spec_l92Word.l0 k1 ((((((x5_1.extract 0 (bt220.1 : Int).toNat) ++ t211) ++ (x5_1.extract (bt220.1 : Int).toNat x5_1.size)).extract 0 (bt222.1 : Int).toNat) ++ t214) ++ ((((x5_1.extract 0 (bt220.1 : Int).toNat) ++ t211) ++ (x5_1.extract (bt220.1 : Int).toNat x5_1.size)).extract (bt222.1 : Int).toNat (((x5_1.extract 0 (bt220.1 : Int).toNat) ++ t211) ++ (x5_1.extract (bt220.1 : Int).toNat x5_1.size)).size)) (wrap64 (1 + t205)) bq5 (wrap64 (x8_1 + 1)) s0_0 bt222.2) else (none)) else (none)) else (none)) else (none))) else (none)) else (none)) else (none)) else (none)))) = some (r1, r2) := H
    have A12 := Aside0.mk A120
    clear A120
    by_cases c13 : bq5 = true
    ·subst c13
     have H1 : (if 0 < (t211.size : Int) then ((spec_l8Other.f k1 (bt t211 0)).bind fun t215 => ((spec_l6Rd_pick.f k1 s0_0 t213 (wrap64 ((x5_1.size : Int) + 1))).bind fun bt216 => (if 0 ≤ bt216.1 then (if bt216.1 ≤ (x5_1.size : Int) then (if (x5_1.extract 0 (bt216.1 : Int).toNat).size + t211.size ≤ 9223372036854775807 then (if ((x5_1.extract 0 (bt216.1 : Int).toNat) ++ t211).size + (x5_1.extract (bt216.1 : Int).toNat x5_1.size).size ≤ 9223372036854775807 then ((spec_l6Rd_pick.f k1 s0_0 bt216.2 (wrap64 (((((x5_1.extract 0 (bt216.1 : Int).toNat) ++ t211) ++ (x5_1.extract (bt216.1 : Int).toNat x5_1.size)).size : Int) + 1))).bind fun bt218 => (if 0 ≤ bt218.1 then (if bt218.1 ≤ ((((x5_1.extract 0 (bt216.1 : Int).toNat) ++ t211) ++ (x5_1.extract (bt216.1 : Int).toNat x5_1.size)).size : Int) then (if ((((x5_1.extract 0 (bt216.1 : Int).toNat) ++ t211) ++ (x5_1.extract (bt216.1 : Int).toNat x5_1.size)).extract 0 (bt218.1 : Int).toNat).size + t215.size ≤ 9223372036854775807 then (if (((((x5_1.extract 0 (bt216.1 : Int).toNat) ++ t211) ++ (x5_1.extract (bt216.1 : Int).toNat x5_1.size)).extract 0 (bt218.1 : Int).toNat) ++ t215).size + ((((x5_1.extract 0 (bt216.1 : Int).toNat) ++ t211) ++ (x5_1.extract (bt216.1 : Int).toNat x5_1.size)).extract (bt218.1 : Int).toNat (((x5_1.extract 0 (bt216.1 : Int).toNat) ++ t211) ++ (x5_1.extract (bt216.1 : Int).toNat x5_1.size)).size).size ≤ 9223372036854775807 then (spec_l92Word.l0 k1 ((((((x5_1.extract 0 (bt216.1 : Int).toNat) ++ t211) ++ (x5_1.extract (bt216.1 : Int).toNat x5_1.size)).extract 0 (bt218.1 : Int).toNat) ++ t215) ++ ((((x5_1.extract 0 (bt216.1 : Int).toNat) ++ t211) ++ (x5_1.extract (bt216.1 : Int).toNat x5_1.size)).extract (bt218.1 : Int).toNat (((x5_1.extract 0 (bt216.1 : Int).toNat) ++ t211) ++ (x5_1.extract (bt216.1 : Int).toNat x5_1.size)).size)) (wrap64 (1 + t205)) true (wrap64 (x8_1 + 1)) s0_0 bt218.2) else (none)) else (none)) else (none)) else (none))) else (none)) else (none)) else (none)) else (none)))) else (none)) = some (r1, r2) := by rw [if_pos rfl] at H; exact H
     clear H
     have H := H1
     clear H1
     by_cases c14 : 0 < (t211.size : Int)
     ·rw [if_pos c14] at H
      have c14b0 : decide (0 < (t211.size : Int)) = true := decide_eq_true c14
      have c14b1 : decide (0 < t211.size) = true := decide_eq_true (by omega)
      clear c14
      replace H := Option.bind_eq_some_iff.mp H
      obtain ⟨t215, A160, H⟩ := H
      replace H : ((spec_l6Rd_pick.f k1 s0_0 t213 (wrap64 ((x5_1.size : Int) + 1))).bind fun bt216 => (if 0 ≤ bt216.1 then (if bt216.1 ≤ (x5_1.size : Int) then (if (x5_1.extract 0 (bt216.1 : Int).toNat).size + t211.size ≤ 9223372036854775807 then (if ((x5_1.extract 0 (bt216.1 : Int).toNat) ++ t211).size + (x5_1.extract (bt216.1 : Int).toNat x5_1.size).size ≤ 9223372036854775807 then ((spec_l6Rd_pick.f k1 s0_0 bt216.2 (wrap64 (((((x5_1.extract 0 (bt216.1 : Int).toNat) ++ t211) ++ (x5_1.extract (bt216.1 : Int).toNat x5_1.size)).size : Int) + 1))).bind fun bt218 => (if 0 ≤ bt218.1 then (if bt218.1 ≤ ((((x5_1.extract 0 (bt216.1 : Int).toNat) ++ t211) ++ (x5_1.extract (bt216.1 : Int).toNat x5_1.size)).size : Int) then (if ((((x5_1.extract 0 (bt216.1 : Int).toNat) ++ t211) ++ (x5_1.extract (bt216.1 : Int).toNat x5_1.size)).extract 0 (bt218.1 : Int).toNat).size + t215.size ≤ 9223372036854775807 then (if (((((x5_1.extract 0 (bt216.1 : Int).toNat) ++ t211) ++ (x5_1.extract (bt216.1 : Int).toNat x5_1.size)).extract 0 (bt218.1 : Int).toNat) ++ t215).size + ((((x5_1.extract 0 (bt216.1 : Int).toNat) ++ t211) ++ (x5_1.extract (bt216.1 : Int).toNat x5_1.size)).extract (bt218.1 : Int).toNat (((x5_1.extract 0 (bt216.1 : Int).toNat) ++ t211) ++ (x5_1.extract (bt216.1 : Int).toNat x5_1.size)).size).size ≤ 9223372036854775807 then (spec_l92Word.l0 k1 ((((((x5_1.extract 0 (bt216.1 : Int).toNat) ++ t211) ++ (x5_1.extract (bt216.1 : Int).toNat x5_1.size)).extract 0 (bt218.1 : Int).toNat) ++ t215) ++ ((((x5_1.extract 0 (bt216.1 : Int).toNat) ++ t211) ++ (x5_1.extract (bt216.1 : Int).toNat x5_1.size)).extract (bt218.1 : Int).toNat (((x5_1.extract 0 (bt216.1 : Int).toNat) ++ t211) ++ (x5_1.extract (bt216.1 : Int).toNat x5_1.size)).size)) (wrap64 (1 + t205)) true (wrap64 (x8_1 + 1)) s0_0 bt218.2) else (none)) else (none)) else (none)) else (none))) else (none)) else (none)) else (none)) else (none))) = some (r1, r2) := H
      have A16 := Aside0.mk A160
      clear A160
      replace H := Option.bind_eq_some_iff.mp H
      obtain ⟨⟨t216, t217⟩, A170, H⟩ := H
      replace H : (if 0 ≤ t216 then (if t216 ≤ (x5_1.size : Int) then (if (x5_1.extract 0 (t216 : Int).toNat).size + t211.size ≤ 9223372036854775807 then (if ((x5_1.extract 0 (t216 : Int).toNat) ++ t211).size + (x5_1.extract (t216 : Int).toNat x5_1.size).size ≤ 9223372036854775807 then ((spec_l6Rd_pick.f k1 s0_0 t217 (wrap64 (((((x5_1.extract 0 (t216 : Int).toNat) ++ t211) ++ (x5_1.extract (t216 : Int).toNat x5_1.size)).size : Int) + 1))).bind fun bt218 => (if 0 ≤ bt218.1 then (if bt218.1 ≤ ((((x5_1.extract 0 (t216 : Int).toNat) ++ t211) ++ (x5_1.extract (t216 : Int).toNat x5_1.size)).size : Int) then (if ((((x5_1.extract 0 (t216 : Int).toNat) ++ t211) ++ (x5_1.extract (t216 : Int).toNat x5_1.size)).extract 0 (bt218.1 : Int).toNat).size + t215.size ≤ 9223372036854775807 then (if (((((x5_1.extract 0 (t216 : Int).toNat) ++ t211) ++ (x5_1.extract (t216 : Int).toNat x5_1.size)).extract 0 (bt218.1 : Int).toNat) ++ t215).size + ((((x5_1.extract 0 (t216 : Int).toNat) ++ t211) ++ (x5_1.extract (t216 : Int).toNat x5_1.size)).extract (bt218.1 : Int).toNat (((x5_1.extract 0 (t216 : Int).toNat) ++ t211) ++ (x5_1.extract (t216 : Int).toNat x5_1.size)).size).size ≤ 9223372036854775807 then (spec_l92Word.l0 k1 ((((((x5_1.extract 0 (t216 : Int).toNat) ++ t211) ++ (x5_1.extract (t216 : Int).toNat x5_1.size)).extract 0 (bt218.1 : Int).toNat) ++ t215) ++ ((((x5_1.extract 0 (t216 : Int).toNat) ++ t211) ++ (x5_1.extract (t216 : Int).toNat x5_1.size)).extract (bt218.1 : Int).toNat (((x5_1.extract 0 (t216 : Int).toNat) ++ t211) ++ (x5_1.extract (t216 : Int).toNat x5_1.size)).size)) (wrap64 (1 + t205)) true (wrap64 (x8_1 + 1)) s0_0 bt218.2) else (none)) else (none)) else (none)) else (none))) else (none)) else (none)) else (none)) else (none)) = some (r1, r2) := H
      have A17 := Aside0.mk A170
      clear A170
      by_cases c18 : 0 ≤ t216
      ·rw [if_pos c18] at H
       have c18b0 := eq_true c18
       have c18b1 : decide (0 ≤ t216) = true := decide_eq_true c18
       clear c18
       by_cases c19 : t216 ≤ (x5_1.size : Int)
       ·rw [if_pos c19] at H
        have c19b0 := eq_true c19
        have c19b1 : decide (t216 ≤ (x5_1.size : Int)) = true := decide_eq_true c19
        clear c19
        obtain ⟨zs20, hzs20⟩ : ∃ j_ : ByteArray, (x5_1.extract 0 (t216 : Int).toNat) = j_ := ⟨_, rfl⟩
        replace H : (if zs20.size + t211.size ≤ 9223372036854775807 then (if (zs20 ++ t211).size + (x5_1.extract (t216 : Int).toNat x5_1.size).size ≤ 9223372036854775807 then ((spec_l6Rd_pick.f k1 s0_0 t217 (wrap64 ((((zs20 ++ t211) ++ (x5_1.extract (t216 : Int).toNat x5_1.size)).size : Int) + 1))).bind fun bt218 => (if 0 ≤ bt218.1 then (if bt218.1 ≤ (((zs20 ++ t211) ++ (x5_1.extract (t216 : Int).toNat x5_1.size)).size : Int) then (if (((zs20 ++ t211) ++ (x5_1.extract (t216 : Int).toNat x5_1.size)).extract 0 (bt218.1 : Int).toNat).size + t215.size ≤ 9223372036854775807 then (if ((((zs20 ++ t211) ++ (x5_1.extract (t216 : Int).toNat x5_1.size)).extract 0 (bt218.1 : Int).toNat) ++ t215).size + (((zs20 ++ t211) ++ (x5_1.extract (t216 : Int).toNat x5_1.size)).extract (bt218.1 : Int).toNat ((zs20 ++ t211) ++ (x5_1.extract (t216 : Int).toNat x5_1.size)).size).size ≤ 9223372036854775807 then (spec_l92Word.l0 k1 (((((zs20 ++ t211) ++ (x5_1.extract (t216 : Int).toNat x5_1.size)).extract 0 (bt218.1 : Int).toNat) ++ t215) ++ (((zs20 ++ t211) ++ (x5_1.extract (t216 : Int).toNat x5_1.size)).extract (bt218.1 : Int).toNat ((zs20 ++ t211) ++ (x5_1.extract (t216 : Int).toNat x5_1.size)).size)) (wrap64 (1 + t205)) true (wrap64 (x8_1 + 1)) s0_0 bt218.2) else (none)) else (none)) else (none)) else (none))) else (none)) else (none)) = some (r1, r2) := by first | (rw [hzs20] at H; exact H) | (simp only [hzs20] at H ⊢; exact H) | exact H
        (try rw [hzs20] at A9)
        (try rw [hzs20] at A10)
        (try rw [hzs20] at A11)
        (try rw [hzs20] at A12)
        (try rw [hzs20] at A16)
        (try rw [hzs20] at A17)
        by_cases c21 : zs20.size + t211.size ≤ 9223372036854775807
        ·rw [if_pos c21] at H
         have c21b0 := eq_true c21
         have c21b1 : decide (zs20.size + t211.size ≤ 9223372036854775807) = true := decide_eq_true c21
         try have c21b2 : (9223372036854775807 < zs20.size + t211.size) = False := eq_false (Nat.not_lt.2 c21)
         obtain ⟨zs22, hzs22⟩ : ∃ j_ : ByteArray, (zs20 ++ t211) = j_ := ⟨_, rfl⟩
         replace H : (if zs22.size + (x5_1.extract (t216 : Int).toNat x5_1.size).size ≤ 9223372036854775807 then ((spec_l6Rd_pick.f k1 s0_0 t217 (wrap64 (((zs22 ++ (x5_1.extract (t216 : Int).toNat x5_1.size)).size : Int) + 1))).bind fun bt218 => (if 0 ≤ bt218.1 then (if bt218.1 ≤ ((zs22 ++ (x5_1.extract (t216 : Int).toNat x5_1.size)).size : Int) then (if ((zs22 ++ (x5_1.extract (t216 : Int).toNat x5_1.size)).extract 0 (bt218.1 : Int).toNat).size + t215.size ≤ 9223372036854775807 then (if (((zs22 ++ (x5_1.extract (t216 : Int).toNat x5_1.size)).extract 0 (bt218.1 : Int).toNat) ++ t215).size + ((zs22 ++ (x5_1.extract (t216 : Int).toNat x5_1.size)).extract (bt218.1 : Int).toNat (zs22 ++ (x5_1.extract (t216 : Int).toNat x5_1.size)).size).size ≤ 9223372036854775807 then (spec_l92Word.l0 k1 ((((zs22 ++ (x5_1.extract (t216 : Int).toNat x5_1.size)).extract 0 (bt218.1 : Int).toNat) ++ t215) ++ ((zs22 ++ (x5_1.extract (t216 : Int).toNat x5_1.size)).extract (bt218.1 : Int).toNat (zs22 ++ (x5_1.extract (t216 : Int).toNat x5_1.size)).size)) (wrap64 (1 + t205)) true (wrap64 (x8_1 + 1)) s0_0 bt218.2) else (none)) else (none)) else (none)) else (none))) else (none)) = some (r1, r2) := by first | (rw [hzs22] at H; exact H) | (simp only [hzs22] at H ⊢; exact H) | exact H
         (try rw [hzs22] at A9)
         (try rw [hzs22] at A10)
         (try rw [hzs22] at A11)
         (try rw [hzs22] at A12)
         (try rw [hzs22] at A16)
         (try rw [hzs22] at A17)
         have c23b0 := eq_true (of_decide_eq_true (by first | (with_reducible assumption) | assumption) : 0 ≤ t216)
         have c24b0 := eq_true (of_decide_eq_true (by first | (with_reducible assumption) | assumption) : t216 ≤ (x5_1.size : Int))
         obtain ⟨zs25, hzs25⟩ : ∃ j_ : ByteArray, (x5_1.extract (t216 : Int).toNat x5_1.size) = j_ := ⟨_, rfl⟩
         replace H : (if zs22.size + zs25.size ≤ 9223372036854775807 then ((spec_l6Rd_pick.f k1 s0_0 t217 (wrap64 (((zs22 ++ zs25).size : Int) + 1))).bind fun bt218 => (if 0 ≤ bt218.1 then (if bt218.1 ≤ ((zs22 ++ zs25).size : Int) then (if ((zs22 ++ zs25).extract 0 (bt218.1 : Int).toNat).size + t215.size ≤ 9223372036854775807 then (if (((zs22 ++ zs25).extract 0 (bt218.1 : Int).toNat) ++ t215).size + ((zs22 ++ zs25).extract (bt218.1 : Int).toNat (zs22 ++ zs25).size).size ≤ 9223372036854775807 then (spec_l92Word.l0 k1 ((((zs22 ++ zs25).extract 0 (bt218.1 : Int).toNat) ++ t215) ++ ((zs22 ++ zs25).extract (bt218.1 : Int).toNat (zs22 ++ zs25).size)) (wrap64 (1 + t205)) true (wrap64 (x8_1 + 1)) s0_0 bt218.2) else (none)) else (none)) else (none)) else (none))) else (none)) = some (r1, r2) := by first | (rw [hzs25] at H; exact H) | (simp only [hzs25] at H ⊢; exact H) | exact H
         (try rw [hzs25] at A9)
         (try rw [hzs25] at A10)
         (try rw [hzs25] at A11)
         (try rw [hzs25] at A12)
         (try rw [hzs25] at A16)
         (try rw [hzs25] at A17)
         by_cases c26 : zs22.size + zs25.size ≤ 9223372036854775807
         ·rw [if_pos c26] at H
          have c26b0 := eq_true c26
          have c26b1 : decide (zs22.size + zs25.size ≤ 9223372036854775807) = true := decide_eq_true c26
          try have c26b2 : (9223372036854775807 < zs22.size + zs25.size) = False := eq_false (Nat.not_lt.2 c26)
          obtain ⟨zs27, hzs27⟩ : ∃ j_ : ByteArray, (zs22 ++ zs25) = j_ := ⟨_, rfl⟩
          replace H : ((spec_l6Rd_pick.f k1 s0_0 t217 (wrap64 ((zs27.size : Int) + 1))).bind fun bt218 => (if 0 ≤ bt218.1 then (if bt218.1 ≤ (zs27.size : Int) then (if (zs27.extract 0 (bt218.1 : Int).toNat).size + t215.size ≤ 9223372036854775807 then (if ((zs27.extract 0 (bt218.1 : Int).toNat) ++ t215).size + (zs27.extract (bt218.1 : Int).toNat zs27.size).size ≤ 9223372036854775807 then (spec_l92Word.l0 k1 (((zs27.extract 0 (bt218.1 : Int).toNat) ++ t215) ++ (zs27.extract (bt218.1 : Int).toNat zs27.size)) (wrap64 (1 + t205)) true (wrap64 (x8_1 + 1)) s0_0 bt218.2) else (none)) else (none)) else (none)) else (none))) = some (r1, r2) := by first | (rw [hzs27] at H; exact H) | (simp only [hzs27] at H ⊢; exact H) | exact H
          (try rw [hzs27] at A9)
          (try rw [hzs27] at A10)
          (try rw [hzs27] at A11)
          (try rw [hzs27] at A12)
          (try rw [hzs27] at A16)
          (try rw [hzs27] at A17)
          replace H := Option.bind_eq_some_iff.mp H
          obtain ⟨⟨t218, t219⟩, A280, H⟩ := H
          replace H : (if 0 ≤ t218 then (if t218 ≤ (zs27.size : Int) then (if (zs27.extract 0 (t218 : Int).toNat).size + t215.size ≤ 9223372036854775807 then (if ((zs27.extract 0 (t218 : Int).toNat) ++ t215).size + (zs27.extract (t218 : Int).toNat zs27.size).size ≤ 9223372036854775807 then (spec_l92Word.l0 k1 (((zs27.extract 0 (t218 : Int).toNat) ++ t215) ++ (zs27.extract (t218 : Int).toNat zs27.size)) (wrap64 (1 + t205)) true (wrap64 (x8_1 + 1)) s0_0 t219) else (none)) else (none)) else (none)) else (none)) = some (r1, r2) := H
          have A28 := Aside0.mk A280
          clear A280
          by_cases c29 : 0 ≤ t218
          ·rw [if_pos c29] at H
           have c29b0 := eq_true c29
           have c29b1 : decide (0 ≤ t218) = true := decide_eq_true c29
           clear c29
           by_cases c30 : t218 ≤ (zs27.size : Int)
           ·rw [if_pos c30] at H
            have c30b0 := eq_true c30
            have c30b1 : decide (t218 ≤ (zs27.size : Int)) = true := decide_eq_true c30
            clear c30
            obtain ⟨zs31, hzs31⟩ : ∃ j_ : ByteArray, (zs27.extract 0 (t218 : Int).toNat) = j_ := ⟨_, rfl⟩
            replace H : (if zs31.size + t215.size ≤ 9223372036854775807 then (if (zs31 ++ t215).size + (zs27.extract (t218 : Int).toNat zs27.size).size ≤ 9223372036854775807 then (spec_l92Word.l0 k1 ((zs31 ++ t215) ++ (zs27.extract (t218 : Int).toNat zs27.size)) (wrap64 (1 + t205)) true (wrap64 (x8_1 + 1)) s0_0 t219) else (none)) else (none)) = some (r1, r2) := by first | (rw [hzs31] at H; exact H) | (simp only [hzs31] at H ⊢; exact H) | exact H
            (try rw [hzs31] at A9)
            (try rw [hzs31] at A10)
            (try rw [hzs31] at A11)
            (try rw [hzs31] at A12)
            (try rw [hzs31] at A16)
            (try rw [hzs31] at A17)
            (try rw [hzs31] at A28)
            by_cases c32 : zs31.size + t215.size ≤ 9223372036854775807
            ·rw [if_pos c32] at H
             have c32b0 := eq_true c32
             have c32b1 : decide (zs31.size + t215.size ≤ 9223372036854775807) = true := decide_eq_true c32
             try have c32b2 : (9223372036854775807 < zs31.size + t215.size) = False := eq_false (Nat.not_lt.2 c32)
             obtain ⟨zs33, hzs33⟩ : ∃ j_ : ByteArray, (zs31 ++ t215) = j_ := ⟨_, rfl⟩
             replace H : (if zs33.size + (zs27.extract (t218 : Int).toNat zs27.size).size ≤ 9223372036854775807 then (spec_l92Word.l0 k1 (zs33 ++ (zs27.extract (t218 : Int).toNat zs27.size)) (wrap64 (1 + t205)) true (wrap64 (x8_1 + 1)) s0_0 t219) else (none)) = some (r1, r2) := by first | (rw [hzs33] at H; exact H) | (simp only [hzs33] at H ⊢; exact H) | exact H
             (try rw [hzs33] at A9)
             (try rw [hzs33] at A10)
             (try rw [hzs33] at A11)
             (try rw [hzs33] at A12)
             (try rw [hzs33] at A16)
             (try rw [hzs33] at A17)
             (try rw [hzs33] at A28)
             have c34b0 := eq_true (of_decide_eq_true (by first | (with_reducible assumption) | assumption) : 0 ≤ t218)
             have c35b0 := eq_true (of_decide_eq_true (by first | (with_reducible assumption) | assumption) : t218 ≤ (zs27.size : Int))
             obtain ⟨zs36, hzs36⟩ : ∃ j_ : ByteArray, (zs27.extract (t218 : Int).toNat zs27.size) = j_ := ⟨_, rfl⟩
             replace H : (if zs33.size + zs36.size ≤ 9223372036854775807 then (spec_l92Word.l0 k1 (zs33 ++ zs36) (wrap64 (1 + t205)) true (wrap64 (x8_1 + 1)) s0_0 t219) else (none)) = some (r1, r2) := by first | (rw [hzs36] at H; exact H) | (simp only [hzs36] at H ⊢; exact H) | exact H
             (try rw [hzs36] at A9)
             (try rw [hzs36] at A10)
             (try rw [hzs36] at A11)
             (try rw [hzs36] at A12)
             (try rw [hzs36] at A16)
             (try rw [hzs36] at A17)
             (try rw [hzs36] at A28)
             by_cases c37 : zs33.size + zs36.size ≤ 9223372036854775807
             ·rw [if_pos c37] at H
              have c37b0 := eq_true c37
              have c37b1 : decide (zs33.size + zs36.size ≤ 9223372036854775807) = true := decide_eq_true c37
              try have c37b2 : (9223372036854775807 < zs33.size + zs36.size) = False := eq_false (Nat.not_lt.2 c37)
              obtain ⟨zs38, hzs38⟩ : ∃ j_ : ByteArray, (zs33 ++ zs36) = j_ := ⟨_, rfl⟩
              replace H : (spec_l92Word.l0 k1 zs38 (wrap64 (1 + t205)) true (wrap64 (x8_1 + 1)) s0_0 t219) = some (r1, r2) := by first | (rw [hzs38] at H; exact H) | (simp only [hzs38] at H ⊢; exact H) | exact H
              (try rw [hzs38] at A9)
              (try rw [hzs38] at A10)
              (try rw [hzs38] at A11)
              (try rw [hzs38] at A12)
              (try rw [hzs38] at A16)
              (try rw [hzs38] at A17)
              (try rw [hzs38] at A28)
              have H' := Aside0.mk H
              clear H
              go_wp2_with (first | (go_at_call 41; (with_reducible refine (spec_l6Rd_pick.calls k1 g s0_0 x1001_1 2 t209 t210 w0 _ ?side1 ?side2 A9.out).mono ?_); (case side1 => repeat (first | (with_reducible first | exact HI0.out | apply IsS58.alloc | apply IsS58.drewN | apply IsS58.drew | apply IsS58.set_1) | exact HI0.out)); (case side2 => repeat (first | (with_reducible first | exact HB.out | apply below_alloc | apply pw_below_drewN | apply below_drew1 | refine below_set ?_ (IsS58.ge HI0.out)) | exact HB.out)); rintro e w39 ⟨rfl, hi, hb, hk⟩; have n0_ := Aside0.mk (KeepBut.trans (by repeat (first | (with_reducible first | exact HK.out | apply KeepBut.set_ | apply keep_drewN | apply keep_drew | apply keep_alloc) | exact HK.out)) hk (.inl rfl)); have n1_ := Aside0.mk (hb); have n2_ := Aside0.mk (hi); clear HK; clear HB; clear HI0; have HK := n0_; have HB := n1_; have HI0 := n2_; clear n0_ n1_ n2_; (try clear hb); (try clear hb2); (try clear hk); (try clear hi)) | (go_at_call 42; (with_reducible refine (spec_l8Name.calls x8_1 (t209 == 0) t211 _ A10.out).mono ?_); rintro e w40 ⟨rfl, hb⟩; have n0_ := Aside0.mk (IsS58.below (by repeat (first | (with_reducible first | exact HI0.out | apply IsS58.alloc | apply IsS58.drewN | apply IsS58.drew | apply IsS58.set_1) | exact HI0.out)) hb); have n1_ := Aside0.mk (KeepBut.trans (by repeat (first | (with_reducible first | exact HK.out | apply KeepBut.set_ | apply keep_drewN | apply keep_drew | apply keep_alloc) | exact HK.out)) (KeepBut.of_below hb g none) (.inl rfl)); have n2_ := Aside0.mk (below_step (by repeat (first | (with_reducible first | exact HB.out | apply below_alloc | apply pw_below_drewN | apply below_drew1 | refine below_set ?_ (IsS58.ge HI0.out)) | exact HB.out)) hb); clear HI0; clear HK; clear HB; have HI0 := n0_; have HK := n1_; have HB := n2_; clear n0_ n1_ n2_; (try clear hb); (try clear hb2); (try clear hk); (try clear hi)) | (go_at_call 41; (with_reducible refine (spec_l6Rd_pick.calls k1 g s0_0 t210 2 t212 t213 w0 _ ?side1 ?side2 A11.out).mono ?_); (case side1 => repeat (first | (with_reducible first | exact HI0.out | apply IsS58.alloc | apply IsS58.drewN | apply IsS58.drew | apply IsS58.set_1) | exact HI0.out)); (case side2 => repeat (first | (with_reducible first | exact HB.out | apply below_alloc | apply pw_below_drewN | apply below_drew1 | refine below_set ?_ (IsS58.ge HI0.out)) | exact HB.out)); rintro e w41 ⟨rfl, hi, hb, hk⟩; have n0_ := Aside0.mk (KeepBut.trans (by repeat (first | (with_reducible first | exact HK.out | apply KeepBut.set_ | apply keep_drewN | apply keep_drew | apply keep_alloc) | exact HK.out)) hk (.inl rfl)); have n1_ := Aside0.mk (hb); have n2_ := Aside0.mk (hi); clear HK; clear HB; clear HI0; have HK := n0_; have HB := n1_; have HI0 := n2_; clear n0_ n1_ n2_; (try clear hb); (try clear hb2); (try clear hk); (try clear hi)) | (go_at_call 42; (with_reducible refine (spec_l8Name.calls x8_1 (t212 == 0) t214 _ A12.out).mono ?_); rintro e w42 ⟨rfl, hb⟩; have n0_ := Aside0.mk (IsS58.below (by repeat (first | (with_reducible first | exact HI0.out | apply IsS58.alloc | apply IsS58.drewN | apply IsS58.drew | apply IsS58.set_1) | exact HI0.out)) hb); have n1_ := Aside0.mk (KeepBut.trans (by repeat (first | (with_reducible first | exact HK.out | apply KeepBut.set_ | apply keep_drewN | apply keep_drew | apply keep_alloc) | exact HK.out)) (KeepBut.of_below hb g none) (.inl rfl)); have n2_ := Aside0.mk (below_step (by repeat (first | (with_reducible first | exact HB.out | apply below_alloc | apply pw_below_drewN | apply below_drew1 | refine below_set ?_ (IsS58.ge HI0.out)) | exact HB.out)) hb); clear HI0; clear HK; clear HB; have HI0 := n0_; have HK := n1_; have HB := n2_; clear n0_ n1_ n2_; (try clear hb); (try clear hb2); (try clear hk); (try clear hi); have p15 : 0 ≤ (0 : Int) := (by omega); have q15 : 0 < t211.size := (by have : (0 : Int) < (t211.size : Int) := of_decide_eq_true (by first | (with_reducible assumption) | assumption); omega); have hx15 : ∀ h : 0 < t211.size, ((t211[0]'h).toNat : Int) = bt t211 0 := bt_at t211 0; clear p15; have qi15 : (0 < (t211.size : Int)) = True := eq_true (of_decide_eq_true (by first | (with_reducible assumption) | assumption)); replace q15 := eq_true q15) | (go_at_call 43; (with_reducible refine (spec_l8Other.calls k1 (bt t211 0) t215 _ A16.out).mono ?_); rintro e w43 ⟨rfl, hb⟩; have n0_ := Aside0.mk (IsS58.below (by repeat (first | (with_reducible first | exact HI0.out | apply IsS58.alloc | apply IsS58.drewN | apply IsS58.drew | apply IsS58.set_1) | exact HI0.out)) hb); have n1_ := Aside0.mk (KeepBut.trans (by repeat (first | (with_reducible first | exact HK.out | apply KeepBut.set_ | apply keep_drewN | apply keep_drew | apply keep_alloc) | exact HK.out)) (KeepBut.of_below hb g none) (.inl rfl)); have n2_ := Aside0.mk (below_step (by repeat (first | (with_reducible first | exact HB.out | apply below_alloc | apply pw_below_drewN | apply below_drew1 | refine below_set ?_ (IsS58.ge HI0.out)) | exact HB.out)) hb); clear HI0; clear HK; clear HB; have HI0 := n0_; have HK := n1_; have HB := n2_; clear n0_ n1_ n2_; (try clear hb); (try clear hb2); (try clear hk); (try clear hi)) | (go_at_call 41; (with_reducible refine (spec_l6Rd_pick.calls k1 g s0_0 t213 (wrap64 ((x5_1.size : Int) + 1)) t216 t217 w0 _ ?side1 ?side2 A17.out).mono ?_); (case side1 => repeat (first | (with_reducible first | exact HI0.out | apply IsS58.alloc | apply IsS58.drewN | apply IsS58.drew | apply IsS58.set_1) | exact HI0.out)); (case side2 => repeat (first | (with_reducible first | exact HB.out | apply below_alloc | apply pw_below_drewN | apply below_drew1 | refine below_set ?_ (IsS58.ge HI0.out)) | exact HB.out)); rintro e w44 ⟨rfl, hi, hb, hk⟩; have n0_ := Aside0.mk (KeepBut.trans (by repeat (first | (with_reducible first | exact HK.out | apply KeepBut.set_ | apply keep_drewN | apply keep_drew | apply keep_alloc) | exact HK.out)) hk (.inl rfl)); have n1_ := Aside0.mk (hb); have n2_ := Aside0.mk (hi); clear HK; clear HB; clear HI0; have HK := n0_; have HB := n1_; have HI0 := n2_; clear n0_ n1_ n2_; (try clear hb); (try clear hb2); (try clear hk); (try clear hi)) | (go_at_call 41; (with_reducible refine (spec_l6Rd_pick.calls k1 g s0_0 t217 (wrap64 ((zs27.size : Int) + 1)) t218 t219 w0 _ ?side1 ?side2 A28.out).mono ?_); (case side1 => repeat (first | (with_reducible first | exact HI0.out | apply IsS58.alloc | apply IsS58.drewN | apply IsS58.drew | apply IsS58.set_1) | exact HI0.out)); (case side2 => repeat (first | (with_reducible first | exact HB.out | apply below_alloc | apply pw_below_drewN | apply below_drew1 | refine below_set ?_ (IsS58.ge HI0.out)) | exact HB.out)); rintro e w45 ⟨rfl, hi, hb, hk⟩; have n0_ := Aside0.mk (KeepBut.trans (by repeat (first | (with_reducible first | exact HK.out | apply KeepBut.set_ | apply keep_drewN | apply keep_drew | apply keep_alloc) | exact HK.out)) hk (.inl rfl)); have n1_ := Aside0.mk (hb); have n2_ := Aside0.mk (hi); clear HK; clear HB; clear HI0; have HK := n0_; have HB := n1_; have HI0 := n2_; clear n0_ n1_ n2_; (try clear hb); (try clear hb2); (try clear hk); (try clear hi)))
              repeat (go_quiet (first | (go_at_call 41; (with_reducible refine (spec_l6Rd_pick.calls k1 g s0_0 x1001_1 2 t209 t210 w0 _ ?side1 ?side2 A9.out).mono ?_); (case side1 => repeat (first | (with_reducible first | exact HI0.out | apply IsS58.alloc | apply IsS58.drewN | apply IsS58.drew | apply IsS58.set_1) | exact HI0.out)); (case side2 => repeat (first | (with_reducible first | exact HB.out | apply below_alloc | apply pw_below_drewN | apply below_drew1 | refine below_set ?_ (IsS58.ge HI0.out)) | exact HB.out)); rintro e w39 ⟨rfl, hi, hb, hk⟩; have n0_ := Aside0.mk (KeepBut.trans (by repeat (first | (with_reducible first | exact HK.out | apply KeepBut.set_ | apply keep_drewN | apply keep_drew | apply keep_alloc) | exact HK.out)) hk (.inl rfl)); have n1_ := Aside0.mk (hb); have n2_ := Aside0.mk (hi); clear HK; clear HB; clear HI0; have HK := n0_; have HB := n1_; have HI0 := n2_; clear n0_ n1_ n2_; (try clear hb); (try clear hb2); (try clear hk); (try clear hi)) | (go_at_call 42; (with_reducible refine (spec_l8Name.calls x8_1 (t209 == 0) t211 _ A10.out).mono ?_); rintro e w40 ⟨rfl, hb⟩; have n0_ := Aside0.mk (IsS58.below (by repeat (first | (with_reducible first | exact HI0.out | apply IsS58.alloc | apply IsS58.drewN | apply IsS58.drew | apply IsS58.set_1) | exact HI0.out)) hb); have n1_ := Aside0.mk (KeepBut.trans (by repeat (first | (with_reducible first | exact HK.out | apply KeepBut.set_ | apply keep_drewN | apply keep_drew | apply keep_alloc) | exact HK.out)) (KeepBut.of_below hb g none) (.inl rfl)); have n2_ := Aside0.mk (below_step (by repeat (first | (with_reducible first | exact HB.out | apply below_alloc | apply pw_below_drewN | apply below_drew1 | refine below_set ?_ (IsS58.ge HI0.out)) | exact HB.out)) hb); clear HI0; clear HK; clear HB; have HI0 := n0_; have HK := n1_; have HB := n2_; clear n0_ n1_ n2_; (try clear hb); (try clear hb2); (try clear hk); (try clear hi)) | (go_at_call 41; (with_reducible refine (spec_l6Rd_pick.calls k1 g s0_0 t210 2 t212 t213 w0 _ ?side1 ?side2 A11.out).mono ?_); (case side1 => repeat (first | (with_reducible first | exact HI0.out | apply IsS58.alloc | apply IsS58.drewN | apply IsS58.drew | apply IsS58.set_1) | exact HI0.out)); (case side2 => repeat (first | (with_reducible first | exact HB.out | apply below_alloc | apply pw_below_drewN | apply below_drew1 | refine below_set ?_ (IsS58.ge HI0.out)) | exact HB.out)); rintro e w41 ⟨rfl, hi, hb, hk⟩; have n0_ := Aside0.mk (KeepBut.trans (by repeat (first | (with_reducible first | exact HK.out | apply KeepBut.set_ | apply keep_drewN | apply keep_drew | apply keep_alloc) | exact HK.out)) hk (.inl rfl)); have n1_ := Aside0.mk (hb); have n2_ := Aside0.mk (hi); clear HK; clear HB; clear HI0; have HK := n0_; have HB := n1_; have HI0 := n2_; clear n0_ n1_ n2_; (try clear hb); (try clear hb2); (try clear hk); (try clear hi)) | (go_at_call 42; (with_reducible refine (spec_l8Name.calls x8_1 (t212 == 0) t214 _ A12.out).mono ?_); rintro e w42 ⟨rfl, hb⟩; have n0_ := Aside0.mk (IsS58.below (by repeat (first | (with_reducible first | exact HI0.out | apply IsS58.alloc | apply IsS58.drewN | apply IsS58.drew | apply IsS58.set_1) | exact HI0.out)) hb); have n1_ := Aside0.mk (KeepBut.trans (by repeat (first | (with_reducible first | exact HK.out | apply KeepBut.set_ | apply keep_drewN | apply keep_drew | apply keep_alloc) | exact HK.out)) (KeepBut.of_below hb g none) (.inl rfl)); have n2_ := Aside0.mk (below_step (by repeat (first | (with_reducible first | exact HB.out | apply below_alloc | apply pw_below_drewN | apply below_drew1 | refine below_set ?_ (IsS58.ge HI0.out)) | exact HB.out)) hb); clear HI0; clear HK; clear HB; have HI0 := n0_; have HK := n1_; have HB := n2_; clear n0_ n1_ n2_; (try clear hb); (try clear hb2); (try clear hk); (try clear hi); have p15 : 0 ≤ (0 : Int) := (by omega); have q15 : 0 < t211.size := (by have : (0 : Int) < (t211.size : Int) := of_decide_eq_true (by first | (with_reducible assumption) | assumption); omega); have hx15 : ∀ h : 0 < t211.size, ((t211[0]'h).toNat : Int) = bt t211 0 := bt_at t211 0; clear p15; have qi15 : (0 < (t211.size : Int)) = True := eq_true (of_decide_eq_true (by first | (with_reducible assumption) | assumption)); replace q15 := eq_true q15) | (go_at_call 43; (with_reducible refine (spec_l8Other.calls k1 (bt t211 0) t215 _ A16.out).mono ?_); rintro e w43 ⟨rfl, hb⟩; have n0_ := Aside0.mk (IsS58.below (by repeat (first | (with_reducible first | exact HI0.out | apply IsS58.alloc | apply IsS58.drewN | apply IsS58.drew | apply IsS58.set_1) | exact HI0.out)) hb); have n1_ := Aside0.mk (KeepBut.trans (by repeat (first | (with_reducible first | exact HK.out | apply KeepBut.set_ | apply keep_drewN | apply keep_drew | apply keep_alloc) | exact HK.out)) (KeepBut.of_below hb g none) (.inl rfl)); have n2_ := Aside0.mk (below_step (by repeat (first | (with_reducible first | exact HB.out | apply below_alloc | apply pw_below_drewN | apply below_drew1 | refine below_set ?_ (IsS58.ge HI0.out)) | exact HB.out)) hb); clear HI0; clear HK; clear HB; have HI0 := n0_; have HK := n1_; have HB := n2_; clear n0_ n1_ n2_; (try clear hb); (try clear hb2); (try clear hk); (try clear hi)) | (go_at_call 41; (with_reducible refine (spec_l6Rd_pick.calls k1 g s0_0 t213 (wrap64 ((x5_1.size : Int) + 1)) t216 t217 w0 _ ?side1 ?side2 A17.out).mono ?_); (case side1 => repeat (first | (with_reducible first | exact HI0.out | apply IsS58.alloc | apply IsS58.drewN | apply IsS58.drew | apply IsS58.set_1) | exact HI0.out)); (case side2 => repeat (first | (with_reducible first | exact HB.out | apply below_alloc | apply pw_below_drewN | apply below_drew1 | refine below_set ?_ (IsS58.ge HI0.out)) | exact HB.out)); rintro e w44 ⟨rfl, hi, hb, hk⟩; have n0_ := Aside0.mk (KeepBut.trans (by repeat (first | (with_reducible first | exact HK.out | apply KeepBut.set_ | apply keep_drewN | apply keep_drew | apply keep_alloc) | exact HK.out)) hk (.inl rfl)); have n1_ := Aside0.mk (hb); have n2_ := Aside0.mk (hi); clear HK; clear HB; clear HI0; have HK := n0_; have HB := n1_; have HI0 := n2_; clear n0_ n1_ n2_; (try clear hb); (try clear hb2); (try clear hk); (try clear hi)) | (go_at_call 41; (with_reducible refine (spec_l6Rd_pick.calls k1 g s0_0 t217 (wrap64 ((zs27.size : Int) + 1)) t218 t219 w0 _ ?side1 ?side2 A28.out).mono ?_); (case side1 => repeat (first | (with_reducible first | exact HI0.out | apply IsS58.alloc | apply IsS58.drewN | apply IsS58.drew | apply IsS58.set_1) | exact HI0.out)); (case side2 => repeat (first | (with_reducible first | exact HB.out | apply below_alloc | apply pw_below_drewN | apply below_drew1 | refine below_set ?_ (IsS58.ge HI0.out)) | exact HB.out)); rintro e w45 ⟨rfl, hi, hb, hk⟩; have n0_ := Aside0.mk (KeepBut.trans (by repeat (first | (with_reducible first | exact HK.out | apply KeepBut.set_ | apply keep_drewN | apply keep_drew | apply keep_alloc) | exact HK.out)) hk (.inl rfl)); have n1_ := Aside0.mk (hb); have n2_ := Aside0.mk (hi); clear HK; clear HB; clear HI0; have HK := n0_; have HB := n1_; have HI0 := n2_; clear n0_ n1_ n2_; (try clear hb); (try clear hb2); (try clear hk); (try clear hi))); try go_wp2_with (first | (go_at_call 41; (with_reducible refine (spec_l6Rd_pick.calls k1 g s0_0 x1001_1 2 t209 t210 w0 _ ?side1 ?side2 A9.out).mono ?_); (case side1 => repeat (first | (with_reducible first | exact HI0.out | apply IsS58.alloc | apply IsS58.drewN | apply IsS58.drew | apply IsS58.set_1) | exact HI0.out)); (case side2 => repeat (first | (with_reducible first | exact HB.out | apply below_alloc | apply pw_below_drewN | apply below_drew1 | refine below_set ?_ (IsS58.ge HI0.out)) | exact HB.out)); rintro e w39 ⟨rfl, hi, hb, hk⟩; have n0_ := Aside0.mk (KeepBut.trans (by repeat (first | (with_reducible first | exact HK.out | apply KeepBut.set_ | apply keep_drewN | apply keep_drew | apply keep_alloc) | exact HK.out)) hk (.inl rfl)); have n1_ := Aside0.mk (hb); have n2_ := Aside0.mk (hi); clear HK; clear HB; clear HI0; have HK := n0_; have HB := n1_; have HI0 := n2_; clear n0_ n1_ n2_; (try clear hb); (try clear hb2); (try clear hk); (try clear hi)) | (go_at_call 42; (with_reducible refine (spec_l8Name.calls x8_1 (t209 == 0) t211 _ A10.out).mono ?_); rintro e w40 ⟨rfl, hb⟩; have n0_ := Aside0.mk (IsS58.below (by repeat (first | (with_reducible first | exact HI0.out | apply IsS58.alloc | apply IsS58.drewN | apply IsS58.drew | apply IsS58.set_1) | exact HI0.out)) hb); have n1_ := Aside0.mk (KeepBut.trans (by repeat (first | (with_reducible first | exact HK.out | apply KeepBut.set_ | apply keep_drewN | apply keep_drew | apply keep_alloc) | exact HK.out)) (KeepBut.of_below hb g none) (.inl rfl)); have n2_ := Aside0.mk (below_step (by repeat (first | (with_reducible first | exact HB.out | apply below_alloc | apply pw_below_drewN | apply below_drew1 | refine below_set ?_ (IsS58.ge HI0.out)) | exact HB.out)) hb); clear HI0; clear HK; clear HB; have HI0 := n0_; have HK := n1_; have HB := n2_; clear n0_ n1_ n2_; (try clear hb); (try clear hb2); (try clear hk); (try clear hi)) | (go_at_call 41; (with_reducible refine (spec_l6Rd_pick.calls k1 g s0_0 t210 2 t212 t213 w0 _ ?side1 ?side2 A11.out).mono ?_); (case side1 => repeat (first | (with_reducible first | exact HI0.out | apply IsS58.alloc | apply IsS58.drewN | apply IsS58.drew | apply IsS58.set_1) | exact HI0.out)); (case side2 => repeat (first | (with_reducible first | exact HB.out | apply below_alloc | apply pw_below_drewN | apply below_drew1 | refine below_set ?_ (IsS58.ge HI0.out)) | exact HB.out)); rintro e w41 ⟨rfl, hi, hb, hk⟩; have n0_ := Aside0.mk (KeepBut.trans (by repeat (first | (with_reducible first | exact HK.out | apply KeepBut.set_ | apply keep_drewN | apply keep_drew | apply keep_alloc) | exact HK.out)) hk (.inl rfl)); have n1_ := Aside0.mk (hb); have n2_ := Aside0.mk (hi); clear HK; clear HB; clear HI0; have HK := n0_; have HB := n1_; have HI0 := n2_; clear n0_ n1_ n2_; (try clear hb); (try clear hb2); (try clear hk); (try clear hi)) | (go_at_call 42; (with_reducible refine (spec_l8Name.calls x8_1 (t212 == 0) t214 _ A12.out).mono ?_); rintro e w42 ⟨rfl, hb⟩; have n0_ := Aside0.mk (IsS58.below (by repeat (first | (with_reducible first | exact HI0.out | apply IsS58.alloc | apply IsS58.drewN | apply IsS58.drew | apply IsS58.set_1) | exact HI0.out)) hb); have n1_ := Aside0.mk (KeepBut.trans (by repeat (first | (with_reducible first | exact HK.out | apply KeepBut.set_ | apply keep_drewN | apply keep_drew | apply keep_alloc) | exact HK.out)) (KeepBut.of_below hb g none) (.inl rfl)); have n2_ := Aside0.mk (below_step (by repeat (first | (with_reducible first | exact HB.out | apply below_alloc | apply pw_below_drewN | apply below_drew1 | refine below_set ?_ (IsS58.ge HI0.out)) | exact HB.out)) hb); clear HI0; clear HK; clear HB; have HI0 := n0_; have HK := n1_; have HB := n2_; clear n0_ n1_ n2_; (try clear hb); (try clear hb2); (try clear hk); (try clear hi); have p15 : 0 ≤ (0 : Int) := (by omega); have q15 : 0 < t211.size := (by have : (0 : Int) < (t211.size : Int) := of_decide_eq_true (by first | (with_reducible assumption) | assumption); omega); have hx15 : ∀ h : 0 < t211.size, ((t211[0]'h).toNat : Int) = bt t211 0 := bt_at t211 0; clear p15; have qi15 : (0 < (t211.size : Int)) = True := eq_true (of_decide_eq_true (by first | (with_reducible assumption) | assumption)); replace q15 := eq_true q15) | (go_at_call 43; (with_reducible refine (spec_l8Other.calls k1 (bt t211 0) t215 _ A16.out).mono ?_); rintro e w43 ⟨rfl, hb⟩; have n0_ := Aside0.mk (IsS58.below (by repeat (first | (with_reducible first | exact HI0.out | apply IsS58.alloc | apply IsS58.drewN | apply IsS58.drew | apply IsS58.set_1) | exact HI0.out)) hb); have n1_ := Aside0.mk (KeepBut.trans (by repeat (first | (with_reducible first | exact HK.out | apply KeepBut.set_ | apply keep_drewN | apply keep_drew | apply keep_alloc) | exact HK.out)) (KeepBut.of_below hb g none) (.inl rfl)); have n2_ := Aside0.mk (below_step (by repeat (first | (with_reducible first | exact HB.out | apply below_alloc | apply pw_below_drewN | apply below_drew1 | refine below_set ?_ (IsS58.ge HI0.out)) | exact HB.out)) hb); clear HI0; clear HK; clear HB; have HI0 := n0_; have HK := n1_; have HB := n2_; clear n0_ n1_ n2_; (try clear hb); (try clear hb2); (try clear hk); (try clear hi)) | (go_at_call 41; (with_reducible refine (spec_l6Rd_pick.calls k1 g s0_0 t213 (wrap64 ((x5_1.size : Int) + 1)) t216 t217 w0 _ ?side1 ?side2 A17.out).mono ?_); (case side1 => repeat (first | (with_reducible first | exact HI0.out | apply IsS58.alloc | apply IsS58.drewN | apply IsS58.drew | apply IsS58.set_1) | exact HI0.out)); (case side2 => repeat (first | (with_reducible first | exact HB.out | apply below_alloc | apply pw_below_drewN | apply below_drew1 | refine below_set ?_ (IsS58.ge HI0.out)) | exact HB.out)); rintro e w44 ⟨rfl, hi, hb, hk⟩; have n0_ := Aside0.mk (KeepBut.trans (by repeat (first | (with_reducible first | exact HK.out | apply KeepBut.set_ | apply keep_drewN | apply keep_drew | apply keep_alloc) | exact HK.out)) hk (.inl rfl)); have n1_ := Aside0.mk (hb); have n2_ := Aside0.mk (hi); clear HK; clear HB; clear HI0; have HK := n0_; have HB := n1_; have HI0 := n2_; clear n0_ n1_ n2_; (try clear hb); (try clear hb2); (try clear hk); (try clear hi)) | (go_at_call 41; (with_reducible refine (spec_l6Rd_pick.calls k1 g s0_0 t217 (wrap64 ((zs27.size : Int) + 1)) t218 t219 w0 _ ?side1 ?side2 A28.out).mono ?_); (case side1 => repeat (first | (with_reducible first | exact HI0.out | apply IsS58.alloc | apply IsS58.drewN | apply IsS58.drew | apply IsS58.set_1) | exact HI0.out)); (case side2 => repeat (first | (with_reducible first | exact HB.out | apply below_alloc | apply pw_below_drewN | apply below_drew1 | refine below_set ?_ (IsS58.ge HI0.out)) | exact HB.out)); rintro e w45 ⟨rfl, hi, hb, hk⟩; have n0_ := Aside0.mk (KeepBut.trans (by repeat (first | (with_reducible first | exact HK.out | apply KeepBut.set_ | apply keep_drewN | apply keep_drew | apply keep_alloc) | exact HK.out)) hk (.inl rfl)); have n1_ := Aside0.mk (hb); have n2_ := Aside0.mk (hi); clear HK; clear HB; clear HI0; have HK := n0_; have HB := n1_; have HI0 := n2_; clear n0_ n1_ n2_; (try clear hb); (try clear hb2); (try clear hk); (try clear hi))))
              go_roundg k1
              case measure => have := HK1.out; omega
              case rel => exact ⟨(zs38), (wrap64 (x8_1 + 1)), (t219), (by first | rfl | (simp; done) | (simp [*]; done)), (by first | rfl | (simp; done) | (simp [*]; done)), H', ⟨by have := HK1.out; omega⟩, ⟨by repeat (first | (with_reducible first | exact HI0.out | apply IsS58.alloc | apply IsS58.drewN | apply IsS58.drew | apply IsS58.set_1) | exact HI0.out)⟩, ⟨by repeat (first | (with_reducible first | exact HK.out | apply KeepBut.set_ | apply keep_drewN | apply keep_drew | apply keep_alloc) | exact HK.out)⟩, ⟨by repeat (first | (with_reducible first | exact HB.out | apply below_alloc | apply pw_below_drewN | apply below_drew1 | refine below_set ?_ (IsS58.ge HI0.out)) | exact HB.out)⟩⟩
             ·rw [if_neg c37] at H
              exact absurd H (by simp)
            ·rw [if_neg c32] at H
             exact absurd H (by simp)
           ·rw [if_neg c30] at H
            exact absurd H (by simp)
          ·rw [if_neg c29] at H
           exact absurd H (by simp)
         ·rw [if_neg c26] at H
          exact absurd H (by simp)
        ·rw [if_neg c21] at H
         exact absurd H (by simp)
       ·rw [if_neg c19] at H
        exact absurd H (by simp)
      ·rw [if_neg c18] at H
       exact absurd H (by simp)
     ·rw [if_neg c14] at H
      exact absurd H (by simp)
    ·replace c13 := Bool.eq_false_iff.mpr c13
     subst c13
     have H1 : ((spec_l6Rd_pick.f k1 s0_0 t213 (wrap64 ((x5_1.size : Int) + 1))).bind fun bt220 => (if 0 ≤ bt220.1 then (if bt220.1 ≤ (x5_1.size : Int) then (if (x5_1.extract 0 (bt220.1 : Int).toNat).size + t211.size ≤ 9223372036854775807 then (if ((x5_1.extract 0 (bt220.1 : Int).toNat) ++ t211).size + (x5_1.extract (bt220.1 : Int).toNat x5_1.size).size ≤ 9223372036854775807 then ((spec_l6Rd_pick.f k1 s0_0 bt220.2 (wrap64 (((((x5_1.extract 0 (bt220.1 : Int).toNat) ++ t211) ++ (x5_1.extract (bt220.1 : Int).toNat x5_1.size)).size : Int) + 1))).bind fun bt222 => (if 0 ≤ bt222.1 then (if bt222.1 ≤ ((((x5_1.extract 0 (bt220.1 : Int).toNat) ++ t211) ++ (x5_1.extract (bt220.1 : Int).toNat x5_1.size)).size : Int) then (if ((((x5_1.extract 0 (bt220.1 : Int).toNat) ++ t211) ++ (x5_1.extract (bt220.1 : Int).toNat x5_1.size)).extract 0 (bt222.1 : Int).toNat).size + t214.size ≤ 9223372036854775807 then (if (((((x5_1.extract 0 (bt220.1 : Int).toNat) ++ t211) ++ (x5_1.extract (bt220.1 : Int).toNat x5_1.size)).extract 0 (bt222.1 : Int).toNat) ++ t214).size + ((((x5_1.extract 0 (bt220.1 : Int).toNat) ++ t211) ++ (x5_1.extract (bt220.1 : Int).toNat x5_1.size)).extract (bt222.1 : Int).toNat (((x5_1.extract 0 (bt220.1 : Int).toNat) ++ t211) ++ (x5_1.extract (bt220.1 : Int).toNat x5_1.size)).size).size ≤ 9223372036854775807 then (spec_l92Word.l0 k1 ((((((x5_1.extract 0 (bt220.1 : Int).toNat) ++ t211) ++ (x5_1.extract (bt220.1 : Int).toNat x5_1.size)).extract 0 (bt222.1 : Int).toNat) ++ t214) ++ ((((x5_1.extract 0 (bt220.1 : Int).toNat) ++ t211) ++ (x5_1.extract (bt220.1 : Int).toNat x5_1.size)).extract (bt222.1 : Int).toNat (((x5_1.extract 0 (bt220.1 : Int).toNat) ++ t211) ++ (x5_1.extract (bt220.1 : Int).toNat x5_1.size)).size)) (wrap64 (1 + t205)) false (wrap64 (x8_1 + 1)) s0_0 bt222.2) else (none)) else (none)) else (none)) else (none))) else (none)) else (none)) else (none)) else (none))) = some (r1, r2) := by rw [if_neg (show ¬ (false = true) by decide)] at H; exact H
     clear H
     have H := H1
     clear H1
     replace H := Option.bind_eq_some_iff.mp H
     obtain ⟨⟨t220, t221⟩, A460, H⟩ := H
     replace H : (if 0 ≤ t220 then (if t220 ≤ (x5_1.size : Int) then (if (x5_1.extract 0 (t220 : Int).toNat).size + t211.size ≤ 9223372036854775807 then (if ((x5_1.extract 0 (t220 : Int).toNat) ++ t211).size + (x5_1.extract (t220 : Int).toNat x5_1.size).size ≤ 9223372036854775807 then ((spec_l6Rd_pick.f k1 s0_0 t221 (wrap64 (((((x5_1.extract 0 (t220 : Int).toNat) ++ t211) ++ (x5_1.extract (t220 : Int).toNat x5_1.size)).size : Int) + 1))).bind fun bt222 => (if 0 ≤ bt222.1 then (if bt222.1 ≤ ((((x5_1.extract 0 (t220 : Int).toNat) ++ t211) ++ (x5_1.extract (t220 : Int).toNat x5_1.size)).size : Int) then (if ((((x5_1.extract 0 (t220 : Int).toNat) ++ t211) ++ (x5_1.extract (t220 : Int).toNat x5_1.size)).extract 0 (bt222.1 : Int).toNat).size + t214.size ≤ 9223372036854775807 then (if (((((x5_1.extract 0 (t220 : Int).toNat) ++ t211) ++ (x5_1.extract (t220 : Int).toNat x5_1.size)).extract 0 (bt222.1 : Int).toNat) ++ t214).size + ((((x5_1.extract 0 (t220 : Int).toNat) ++ t211) ++ (x5_1.extract (t220 : Int).toNat x5_1.size)).extract (bt222.1 : Int).toNat (((x5_1.extract 0 (t220 : Int).toNat) ++ t211) ++ (x5_1.extract (t220 : Int).toNat x5_1.size)).size).size ≤ 9223372036854775807 then (spec_l92Word.l0 k1 ((((((x5_1.extract 0 (t220 : Int).toNat) ++ t211) ++ (x5_1.extract (t220 : Int).toNat x5_1.size)).extract 0 (bt222.1 : Int).toNat) ++ t214) ++ ((((x5_1.extract 0 (t220 : Int).toNat) ++ t211) ++ (x5_1.extract (t220 : Int).toNat x5_1.size)).extract (bt222.1 : Int).toNat (((x5_1.extract 0 (t220 : Int).toNat) ++ t211) ++ (x5_1.extract (t220 : Int).toNat x5_1.size)).size)) (wrap64 (1 + t205)) false (wrap64 (x8_1 + 1)) s0_0 bt222.2) else (none)) else (none)) else (none)) else (none))) else (none)) else (none)) else (none)) else (none)) = some (r1, r2) := H
     have A46 := Aside0.mk A460
     clear A460
     by_cases c47 : 0 ≤ t220
     ·rw [if_pos c47] at H
      have c47b0 := eq_true c47
      have c47b1 : decide (0 ≤ t220) = true := decide_eq_true c47
      clear c47
      by_cases c48 : t220 ≤ (x5_1.size : Int)
      ·rw [if_pos c48] at H
       have c48b0 := eq_true c48
       have c48b1 : decide (t220 ≤ (x5_1.size : Int)) = true := decide_eq_true c48
       clear c48
       obtain ⟨zs49, hzs49⟩ : ∃ j_ : ByteArray, (x5_1.extract 0 (t220 : Int).toNat) = j_ := ⟨_, rfl⟩
       replace H : (if zs49.size + t211.size ≤ 9223372036854775807 then (if (zs49 ++ t211).size + (x5_1.extract (t220 : Int).toNat x5_1.size).size ≤ 9223372036854775807 then ((spec_l6Rd_pick.f k1 s0_0 t221 (wrap64 ((((zs49 ++ t211) ++ (x5_1.extract (t220 : Int).toNat x5_1.size)).size : Int) + 1))).bind fun bt222 => (if 0 ≤ bt222.1 then (if bt222.1 ≤ (((zs49 ++ t211) ++ (x5_1.extract (t220 : Int).toNat x5_1.size)).size : Int) then (if (((zs49 ++ t211) ++ (x5_1.extract (t220 : Int).toNat x5_1.size)).extract 0 (bt222.1 : Int).toNat).size + t214.size ≤ 9223372036854775807 then (if ((((zs49 ++ t211) ++ (x5_1.extract (t220 : Int).toNat x5_1.size)).extract 0 (bt222.1 : Int).toNat) ++ t214).size + (((zs49 ++ t211) ++ (x5_1.extract (t220 : Int).toNat x5_1.size)).extract (bt222.1 : Int).toNat ((zs49 ++ t211) ++ (x5_1.extract (t220 : Int).toNat x5_1.size)).size).size ≤ 9223372036854775807 then (spec_l92Word.l0 k1 (((((zs49 ++ t211) ++ (x5_1.extract (t220 : Int).toNat x5_1.size)).extract 0 (bt222.1 : Int).toNat) ++ t214) ++ (((zs49 ++ t211) ++ (x5_1.extract (t220 : Int).toNat x5_1.size)).extract (bt222.1 : Int).toNat ((zs49 ++ t211) ++ (x5_1.extract (t220 : Int).toNat x5_1.size)).size)) (wrap64 (1 + t205)) false (wrap64 (x8_1 + 1)) s0_0 bt222.2) else (none)) else (none)) else (none)) else (none))) else (none)) else (none)) = some (r1, r2) := by first | (rw [hzs49] at H; exact H) | (simp only [hzs49] at H ⊢; exact H) | exact H
       (try rw [hzs49] at A9)
       (try rw [hzs49] at A10)
       (try rw [hzs49] at A11)
       (try rw [hzs49] at A12)
       (try rw [hzs49] at A46)
       by_cases c50 : zs49.size + t211.size ≤ 9223372036854775807
       ·rw [if_pos c50] at H
        have c50b0 := eq_true c50
        have c50b1 : decide (zs49.size + t211.size ≤ 9223372036854775807) = true := decide_eq_true c50
        try have c50b2 : (9223372036854775807 < zs49.size + t211.size) = False := eq_false (Nat.not_lt.2 c50)
        obtain ⟨zs51, hzs51⟩ : ∃ j_ : ByteArray, (zs49 ++ t211) = j_ := ⟨_, rfl⟩
        replace H : (if zs51.size + (x5_1.extract (t220 : Int).toNat x5_1.size).size ≤ 9223372036854775807 then ((spec_l6Rd_pick.f k1 s0_0 t221 (wrap64 (((zs51 ++ (x5_1.extract (t220 : Int).toNat x5_1.size)).size : Int) + 1))).bind fun bt222 => (if 0 ≤ bt222.1 then (if bt222.1 ≤ ((zs51 ++ (x5_1.extract (t220 : Int).toNat x5_1.size)).size : Int) then (if ((zs51 ++ (x5_1.extract (t220 : Int).toNat x5_1.size)).extract 0 (bt222.1 : Int).toNat).size + t214.size ≤ 9223372036854775807 then (if (((zs51 ++ (x5_1.extract (t220 : Int).toNat x5_1.size)).extract 0 (bt222.1 : Int).toNat) ++ t214).size + ((zs51 ++ (x5_1.extract (t220 : Int).toNat x5_1.size)).extract (bt222.1 : Int).toNat (zs51 ++ (x5_1.extract (t220 : Int).toNat x5_1.size)).size).size ≤ 9223372036854775807 then (spec_l92Word.l0 k1 ((((zs51 ++ (x5_1.extract (t220 : Int).toNat x5_1.size)).extract 0 (bt222.1 : Int).toNat) ++ t214) ++ ((zs51 ++ (x5_1.extract (t220 : Int).toNat x5_1.size)).extract (bt222.1 : Int).toNat (zs51 ++ (x5_1.extract (t220 : Int).toNat x5_1.size)).size)) (wrap64 (1 + t205)) false (wrap64 (x8_1 + 1)) s0_0 bt222.2) else (none)) else (none)) else (none)) else (none))) else (none)) = some (r1, r2) := by first | (rw [hzs51] at H; exact H) | (simp only [hzs51] at H ⊢; exact H) | exact H
        (try rw [hzs51] at A9)
        (try rw [hzs51] at A10)
        (try rw [hzs51] at A11)
        (try rw [hzs51] at A12)
        (try rw [hzs51] at A46)
        have c52b0 := eq_true (of_decide_eq_true (by first | (with_reducible assumption) | assumption) : 0 ≤ t220)
        have c53b0 := eq_true (of_decide_eq_true (by first | (with_reducible assumption) | assumption) : t220 ≤ (x5_1.size : Int))
        obtain ⟨zs54, hzs54⟩ : ∃ j_ : ByteArray, (x5_1.extract (t220 : Int).toNat x5_1.size) = j_ := ⟨_, rfl⟩
        replace H : (if zs51.size + zs54.size ≤ 9223372036854775807 then ((spec_l6Rd_pick.f k1 s0_0 t221 (wrap64 (((zs51 ++ zs54).size : Int) + 1))).bind fun bt222 => (if 0 ≤ bt222.1 then (if bt222.1 ≤ ((zs51 ++ zs54).size : Int) then (if ((zs51 ++ zs54).extract 0 (bt222.1 : Int).toNat).size + t214.size ≤ 9223372036854775807 then (if (((zs51 ++ zs54).extract 0 (bt222.1 : Int).toNat) ++ t214).size + ((zs51 ++ zs54).extract (bt222.1 : Int).toNat (zs51 ++ zs54).size).size ≤ 9223372036854775807 then (spec_l92Word.l0 k1 ((((zs51 ++ zs54).extract 0 (bt222.1 : Int).toNat) ++ t214) ++ ((zs51 ++ zs54).extract (bt222.1 : Int).toNat (zs51 ++ zs54).size)) (wrap64 (1 + t205)) false (wrap64 (x8_1 + 1)) s0_0 bt222.2) else (none)) else (none)) else (none)) else (none))) else (none)) = some (r1, r2) := by first | (rw [hzs54] at H; exact H) | (simp only [hzs54] at H ⊢; exact H) | exact H
        (try rw [hzs54] at A9)
        (try rw [hzs54] at A10)
        (try rw [hzs54] at A11)
        (try rw [hzs54] at A12)
        (try rw [hzs54] at A46)
        by_cases c55 : zs51.size + zs54.size ≤ 9223372036854775807
        ·rw [if_pos c55] at H
         have c55b0 := eq_true c55
         have c55b1 : decide (zs51.size + zs54.size ≤ 9223372036854775807) = true := decide_eq_true c55
         try have c55b2 : (9223372036854775807 < zs51.size + zs54.size) = False := eq_false (Nat.not_lt.2 c55)
         obtain ⟨zs56, hzs56⟩ : ∃ j_ : ByteArray, (zs51 ++ zs54) = j_ := ⟨_, rfl⟩
         replace H : ((spec_l6Rd_pick.f k1 s0_0 t221 (wrap64 ((zs56.size : Int) + 1))).bind fun bt222 => (if 0 ≤ bt222.1 then (if bt222.1 ≤ (zs56.size : Int) then (if (zs56.extract 0 (bt222.1 : Int).toNat).size + t214.size ≤ 9223372036854775807 then (if ((zs56.extract 0 (bt222.1 : Int).toNat) ++ t214).size + (zs56.extract (bt222.1 : Int).toNat zs56.size).size ≤ 9223372036854775807 then (spec_l92Word.l0 k1 (((zs56.extract 0 (bt222.1 : Int).toNat) ++ t214) ++ (zs56.extract (bt222.1 : Int).toNat zs56.size)) (wrap64 (1 + t205)) false (wrap64 (x8_1 + 1)) s0_0 bt222.2) else (none)) else (none)) else (none)) else (none))) = some (r1, r2) := by first | (rw [hzs56] at H; exact H) | (simp only [hzs56] at H ⊢; exact H) | exact H
         (try rw [hzs56] at A9)
         (try rw [hzs56] at A10)
         (try rw [hzs56] at A11)
         (try rw [hzs56] at A12)
         (try rw [hzs56] at A46)
         replace H := Option.bind_eq_some_iff.mp H
         obtain ⟨⟨t222, t223⟩, A570, H⟩ := H
         replace H : (if 0 ≤ t222 then (if t222 ≤ (zs56.size : Int) then (if (zs56.extract 0 (t222 : Int).toNat).size + t214.size ≤ 9223372036854775807 then (if ((zs56.extract 0 (t222 : Int).toNat) ++ t214).size + (zs56.extract (t222 : Int).toNat zs56.size).size ≤ 9223372036854775807 then (spec_l92Word.l0 k1 (((zs56.extract 0 (t222 : Int).toNat) ++ t214) ++ (zs56.extract (t222 : Int).toNat zs56.size)) (wrap64 (1 + t205)) false (wrap64 (x8_1 + 1)) s0_0 t223) else (none)) else (none)) else (none)) else (none)) = some (r1, r2) := H
         have A57 := Aside0.mk A570
         clear A570
         by_cases c58 : 0 ≤ t222
         ·rw [if_pos c58] at H
          have c58b0 := eq_true c58
          have c58b1 : decide (0 ≤ t222) = true := decide_eq_true c58
          clear c58
          by_cases c59 : t222 ≤ (zs56.size : Int)
          ·rw [if_pos c59] at H
           have c59b0 := eq_true c59
           have c59b1 : decide (t222 ≤ (zs56.size : Int)) = true := decide_eq_true c59
           clear c59
           obtain ⟨zs60, hzs60⟩ : ∃ j_ : ByteArray, (zs56.extract 0 (t222 : Int).toNat) = j_ := ⟨_, rfl⟩
           replace H : (if zs60.size + t214.size ≤ 9223372036854775807 then (if (zs60 ++ t214).size + (zs56.extract (t222 : Int).toNat zs56.size).size ≤ 9223372036854775807 then (spec_l92Word.l0 k1 ((zs60 ++ t214) ++ (zs56.extract (t222 : Int).toNat zs56.size)) (wrap64 (1 + t205)) false (wrap64 (x8_1 + 1)) s0_0 t223) else (none)) else (none)) = some (r1, r2) := by first | (rw [hzs60] at H; exact H) | (simp only [hzs60] at H ⊢; exact H) | exact H
           (try rw [hzs60] at A9)
           (try rw [hzs60] at A10)
           (try rw [hzs60] at A11)
           (try rw [hzs60] at A12)
           (try rw [hzs60] at A46)
           (try rw [hzs60] at A57)
           by_cases c61 : zs60.size + t214.size ≤ 9223372036854775807
           ·rw [if_pos c61] at H
            have c61b0 := eq_true c61
            have c61b1 : decide (zs60.size + t214.size ≤ 9223372036854775807) = true := decide_eq_true c61
            try have c61b2 : (9223372036854775807 < zs60.size + t214.size) = False := eq_false (Nat.not_lt.2 c61)
            obtain ⟨zs62, hzs62⟩ : ∃ j_ : ByteArray, (zs60 ++ t214) = j_ := ⟨_, rfl⟩
            replace H : (if zs62.size + (zs56.extract (t222 : Int).toNat zs56.size).size ≤ 9223372036854775807 then (spec_l92Word.l0 k1 (zs62 ++ (zs56.extract (t222 : Int).toNat zs56.size)) (wrap64 (1 + t205)) false (wrap64 (x8_1 + 1)) s0_0 t223) else (none)) = some (r1, r2) := by first | (rw [hzs62] at H; exact H) | (simp only [hzs62] at H ⊢; exact H) | exact H
            (try rw [hzs62] at A9)
            (try rw [hzs62] at A10)
            (try rw [hzs62] at A11)
            (try rw [hzs62] at A12)
            (try rw [hzs62] at A46)
            (try rw [hzs62] at A57)
            have c63b0 := eq_true (of_decide_eq_true (by first | (with_reducible assumption) | assumption) : 0 ≤ t222)
            have c64b0 := eq_true (of_decide_eq_true (by first | (with_reducible assumption) | assumption) : t222 ≤ (zs56.size : Int))
            obtain ⟨zs65, hzs65⟩ : ∃ j_ : ByteArray, (zs56.extract (t222 : Int).toNat zs56.size) = j_ := ⟨_, rfl⟩
            replace H : (if zs62.size + zs65.size ≤ 9223372036854775807 then (spec_l92Word.l0 k1 (zs62 ++ zs65) (wrap64 (1 + t205)) false (wrap64 (x8_1 + 1)) s0_0 t223) else (none)) = some (r1, r2) := by first | (rw [hzs65] at H; exact H) | (simp only [hzs65] at H ⊢; exact H) | exact H
            (try rw [hzs65] at A9)
            (try rw [hzs65] at A10)
            (try rw [hzs65] at A11)
            (try rw [hzs65] at A12)
            (try rw [hzs65] at A46)
            (try rw [hzs65] at A57)
            by_cases c66 : zs62.size + zs65.size ≤ 9223372036854775807
            ·rw [if_pos c66] at H
             have c66b0 := eq_true c66
             have c66b1 : decide (zs62.size + zs65.size ≤ 9223372036854775807) = true := decide_eq_true c66
             try have c66b2 : (9223372036854775807 < zs62.size + zs65.size) = False := eq_false (Nat.not_lt.2 c66)
             obtain ⟨zs67, hzs67⟩ : ∃ j_ : ByteArray, (zs62 ++ zs65) = j_ := ⟨_, rfl⟩
             replace H : (spec_l92Word.l0 k1 zs67 (wrap64 (1 + t205)) false (wrap64 (x8_1 + 1)) s0_0 t223) = some (r1, r2) := by first | (rw [hzs67] at H; exact H) | (simp only [hzs67] at H ⊢; exact H) | exact H
             (try rw [hzs67] at A9)
             (try rw [hzs67] at A10)
             (try rw [hzs67] at A11)
             (try rw [hzs67] at A12)
             (try rw [hzs67] at A46)
             (try rw [hzs67] at A57)
             have H' := Aside0.mk H
             clear H
             go_wp2_with (first | (go_at_call 41; (with_reducible refine (spec_l6Rd_pick.calls k1 g s0_0 x1001_1 2 t209 t210 w0 _ ?side1 ?side2 A9.out).mono ?_); (case side1 => repeat (first | (with_reducible first | exact HI0.out | apply IsS58.alloc | apply IsS58.drewN | apply IsS58.drew | apply IsS58.set_1) | exact HI0.out)); (case side2 => repeat (first | (with_reducible first | exact HB.out | apply below_alloc | apply pw_below_drewN | apply below_drew1 | refine below_set ?_ (IsS58.ge HI0.out)) | exact HB.out)); rintro e w68 ⟨rfl, hi, hb, hk⟩; have n0_ := Aside0.mk (KeepBut.trans (by repeat (first | (with_reducible first | exact HK.out | apply KeepBut.set_ | apply keep_drewN | apply keep_drew | apply keep_alloc) | exact HK.out)) hk (.inl rfl)); have n1_ := Aside0.mk (hb); have n2_ := Aside0.mk (hi); clear HK; clear HB; clear HI0; have HK := n0_; have HB := n1_; have HI0 := n2_; clear n0_ n1_ n2_; (try clear hb); (try clear hb2); (try clear hk); (try clear hi)) | (go_at_call 42; (with_reducible refine (spec_l8Name.calls x8_1 (t209 == 0) t211 _ A10.out).mono ?_); rintro e w69 ⟨rfl, hb⟩; have n0_ := Aside0.mk (IsS58.below (by repeat (first | (with_reducible first | exact HI0.out | apply IsS58.alloc | apply IsS58.drewN | apply IsS58.drew | apply IsS58.set_1) | exact HI0.out)) hb); have n1_ := Aside0.mk (KeepBut.trans (by repeat (first | (with_reducible first | exact HK.out | apply KeepBut.set_ | apply keep_drewN | apply keep_drew | apply keep_alloc) | exact HK.out)) (KeepBut.of_below hb g none) (.inl rfl)); have n2_ := Aside0.mk (below_step (by repeat (first | (with_reducible first | exact HB.out | apply below_alloc | apply pw_below_drewN | apply below_drew1 | refine below_set ?_ (IsS58.ge HI0.out)) | exact HB.out)) hb); clear HI0; clear HK; clear HB; have HI0 := n0_; have HK := n1_; have HB := n2_; clear n0_ n1_ n2_; (try clear hb); (try clear hb2); (try clear hk); (try clear hi)) | (go_at_call 41; (with_reducible refine (spec_l6Rd_pick.calls k1 g s0_0 t210 2 t212 t213 w0 _ ?side1 ?side2 A11.out).mono ?_); (case side1 => repeat (first | (with_reducible first | exact HI0.out | apply IsS58.alloc | apply IsS58.drewN | apply IsS58.drew | apply IsS58.set_1) | exact HI0.out)); (case side2 => repeat (first | (with_reducible first | exact HB.out | apply below_alloc | apply pw_below_drewN | apply below_drew1 | refine below_set ?_ (IsS58.ge HI0.out)) | exact HB.out)); rintro e w70 ⟨rfl, hi, hb, hk⟩; have n0_ := Aside0.mk (KeepBut.trans (by repeat (first | (with_reducible first | exact HK.out | apply KeepBut.set_ | apply keep_drewN | apply keep_drew | apply keep_alloc) | exact HK.out)) hk (.inl rfl)); have n1_ := Aside0.mk (hb); have n2_ := Aside0.mk (hi); clear HK; clear HB; clear HI0; have HK := n0_; have HB := n1_; have HI0 := n2_; clear n0_ n1_ n2_; (try clear hb); (try clear hb2); (try clear hk); (try clear hi)) | (go_at_call 42; (with_reducible refine (spec_l8Name.calls x8_1 (t212 == 0) t214 _ A12.out).mono ?_); rintro e w71 ⟨rfl, hb⟩; have n0_ := Aside0.mk (IsS58.below (by repeat (first | (with_reducible first | exact HI0.out | apply IsS58.alloc | apply IsS58.drewN | apply IsS58.drew | apply IsS58.set_1) | exact HI0.out)) hb); have n1_ := Aside0.mk (KeepBut.trans (by repeat (first | (with_reducible first | exact HK.out | apply KeepBut.set_ | apply keep_drewN | apply keep_drew | apply keep_alloc) | exact HK.out)) (KeepBut.of_below hb g none) (.inl rfl)); have n2_ := Aside0.mk (below_step (by repeat (first | (with_reducible first | exact HB.out | apply below_alloc | apply pw_below_drewN | apply below_drew1 | refine below_set ?_ (IsS58.ge HI0.out)) | exact HB.out)) hb); clear HI0; clear HK; clear HB; have HI0 := n0_; have HK := n1_; have HB := n2_; clear n0_ n1_ n2_; (try clear hb); (try clear hb2); (try clear hk); (try clear hi)) | (go_at_call 41; (with_reducible refine (spec_l6Rd_pick.calls k1 g s0_0 t213 (wrap64 ((x5_1.size : Int) + 1)) t220 t221 w0 _ ?side1 ?side2 A46.out).mono ?_); (case side1 => repeat (first | (with_reducible first | exact HI0.out | apply IsS58.alloc | apply IsS58.drewN | apply IsS58.drew | apply IsS58.set_1) | exact HI0.out)); (case side2 => repeat (first | (with_reducible first | exact HB.out | apply below_alloc | apply pw_below_drewN | apply below_drew1 | refine below_set ?_ (IsS58.ge HI0.out)) | exact HB.out)); rintro e w72 ⟨rfl, hi, hb, hk⟩; have n0_ := Aside0.mk (KeepBut.trans (by repeat (first | (with_reducible first | exact HK.out | apply KeepBut.set_ | apply keep_drewN | apply keep_drew | apply keep_alloc) | exact HK.out)) hk (.inl rfl)); have n1_ := Aside0.mk (hb); have n2_ := Aside0.mk (hi); clear HK; clear HB; clear HI0; have HK := n0_; have HB := n1_; have HI0 := n2_; clear n0_ n1_ n2_; (try clear hb); (try clear hb2); (try clear hk); (try clear hi)) | (go_at_call 41; (with_reducible refine (spec_l6Rd_pick.calls k1 g s0_0 t221 (wrap64 ((zs56.size : Int) + 1)) t222 t223 w0 _ ?side1 ?side2 A57.out).mono ?_); (case side1 => repeat (first | (with_reducible first | exact HI0.out | apply IsS58.alloc | apply IsS58.drewN | apply IsS58.drew | apply IsS58.set_1) | exact HI0.out)); (case side2 => repeat (first | (with_reducible first | exact HB.out | apply below_alloc | apply pw_below_drewN | apply below_drew1 | refine below_set ?_ (IsS58.ge HI0.out)) | exact HB.out)); rintro e w73 ⟨rfl, hi, hb, hk⟩; have n0_ := Aside0.mk (KeepBut.trans (by repeat (first | (with_reducible first | exact HK.out | apply KeepBut.set_ | apply keep_drewN | apply keep_drew | apply keep_alloc) | exact HK.out)) hk (.inl rfl)); have n1_ := Aside0.mk (hb); have n2_ := Aside0.mk (hi); clear HK; clear HB; clear HI0; have HK := n0_; have HB := n1_; have HI0 := n2_; clear n0_ n1_ n2_; (try clear hb); (try clear hb2); (try clear hk); (try clear hi)))
             repeat (go_quiet (first | (go_at_call 41; (with_reducible refine (spec_l6Rd_pick.calls k1 g s0_0 x1001_1 2 t209 t210 w0 _ ?side1 ?side2 A9.out).mono ?_); (case side1 => repeat (first | (with_reducible first | exact HI0.out | apply IsS58.alloc | apply IsS58.drewN | apply IsS58.drew | apply IsS58.set_1) | exact HI0.out)); (case side2 => repeat (first | (with_reducible first | exact HB.out | apply below_alloc | apply pw_below_drewN | apply below_drew1 | refine below_set ?_ (IsS58.ge HI0.out)) | exact HB.out)); rintro e w68 ⟨rfl, hi, hb, hk⟩; have n0_ := Aside0.mk (KeepBut.trans (by repeat (first | (with_reducible first | exact HK.out | apply KeepBut.set_ | apply keep_drewN | apply keep_drew | apply keep_alloc) | exact HK.out)) hk (.inl rfl)); have n1_ := Aside0.mk (hb); have n2_ := Aside0.mk (hi); clear HK; clear HB; clear HI0; have HK := n0_; have HB := n1_; have HI0 := n2_; clear n0_ n1_ n2_; (try clear hb); (try clear hb2); (try clear hk); (try clear hi)) | (go_at_call 42; (with_reducible refine (spec_l8Name.calls x8_1 (t209 == 0) t211 _ A10.out).mono ?_); rintro e w69 ⟨rfl, hb⟩; have n0_ := Aside0.mk (IsS58.below (by repeat (first | (with_reducible first | exact HI0.out | apply IsS58.alloc | apply IsS58.drewN | apply IsS58.drew | apply IsS58.set_1) | exact HI0.out)) hb); have n1_ := Aside0.mk (KeepBut.trans (by repeat (first | (with_reducible first | exact HK.out | apply KeepBut.set_ | apply keep_drewN | apply keep_drew | apply keep_alloc) | exact HK.out)) (KeepBut.of_below hb g none) (.inl rfl)); have n2_ := Aside0.mk (below_step (by repeat (first | (with_reducible first | exact HB.out | apply below_alloc | apply pw_below_drewN | apply below_drew1 | refine below_set ?_ (IsS58.ge HI0.out)) | exact HB.out)) hb); clear HI0; clear HK; clear HB; have HI0 := n0_; have HK := n1_; have HB := n2_; clear n0_ n1_ n2_; (try clear hb); (try clear hb2); (try clear hk); (try clear hi)) | (go_at_call 41; (with_reducible refine (spec_l6Rd_pick.calls k1 g s0_0 t210 2 t212 t213 w0 _ ?side1 ?side2 A11.out).mono ?_); (case side1 => repeat (first | (with_reducible first | exact HI0.out | apply IsS58.alloc | apply IsS58.drewN | apply IsS58.drew | apply IsS58.set_1) | exact HI0.out)); (case side2 => repeat (first | (with_reducible first | exact HB.out | apply below_alloc | apply pw_below_drewN | apply below_drew1 | refine below_set ?_ (IsS58.ge HI0.out)) | exact HB.out)); rintro e w70 ⟨rfl, hi, hb, hk⟩; have n0_ := Aside0.mk (KeepBut.trans (by repeat (first | (with_reducible first | exact HK.out | apply KeepBut.set_ | apply keep_drewN | apply keep_drew | apply keep_alloc) | exact HK.out)) hk (.inl rfl)); have n1_ := Aside0.mk (hb); have n2_ := Aside0.mk (hi); clear HK; clear HB; clear HI0; have HK := n0_; have HB := n1_; have HI0 := n2_; clear n0_ n1_ n2_; (try clear hb); (try clear hb2); (try clear hk); (try clear hi)) | (go_at_call 42; (with_reducible refine (spec_l8Name.calls x8_1 (t212 == 0) t214 _ A12.out).mono ?_); rintro e w71 ⟨rfl, hb⟩; have n0_ := Aside0.mk (IsS58.below (by repeat (first | (with_reducible first | exact HI0.out | apply IsS58.alloc | apply IsS58.drewN | apply IsS58.drew | apply IsS58.set_1) | exact HI0.out)) hb); have n1_ := Aside0.mk (KeepBut.trans (by repeat (first | (with_reducible first | exact HK.out | apply KeepBut.set_ | apply keep_drewN | apply keep_drew | apply keep_alloc) | exact HK.out)) (KeepBut.of_below hb g none) (.inl rfl)); have n2_ := Aside0.mk (below_step (by repeat (first | (with_reducible first | exact HB.out | apply below_alloc | apply pw_below_drewN | apply below_drew1 | refine below_set ?_ (IsS58.ge HI0.out)) | exact HB.out)) hb); clear HI0; clear HK; clear HB; have HI0 := n0_; have HK := n1_; have HB := n2_; clear n0_ n1_ n2_; (try clear hb); (try clear hb2); (try clear hk); (try clear hi)) | (go_at_call 41; (with_reducible refine (spec_l6Rd_pick.calls k1 g s0_0 t213 (wrap64 ((x5_1.size : Int) + 1)) t220 t221 w0 _ ?side1 ?side2 A46.out).mono ?_); (case side1 => repeat (first | (with_reducible first | exact HI0.out | apply IsS58.alloc | apply IsS58.drewN | apply IsS58.drew | apply IsS58.set_1) | exact HI0.out)); (case side2 => repeat (first | (with_reducible first | exact HB.out | apply below_alloc | apply pw_below_drewN | apply below_drew1 | refine below_set ?_ (IsS58.ge HI0.out)) | exact HB.out)); rintro e w72 ⟨rfl, hi, hb, hk⟩; have n0_ := Aside0.mk (KeepBut.trans (by repeat (first | (with_reducible first | exact HK.out | apply KeepBut.set_ | apply keep_drewN | apply keep_drew | apply keep_alloc) | exact HK.out)) hk (.inl rfl)); have n1_ := Aside0.mk (hb); have n2_ := Aside0.mk (hi); clear HK; clear HB; clear HI0; have HK := n0_; have HB := n1_; have HI0 := n2_; clear n0_ n1_ n2_; (try clear hb); (try clear hb2); (try clear hk); (try clear hi)) | (go_at_call 41; (with_reducible refine (spec_l6Rd_pick.calls k1 g s0_0 t221 (wrap64 ((zs56.size : Int) + 1)) t222 t223 w0 _ ?side1 ?side2 A57.out).mono ?_); (case side1 => repeat (first | (with_reducible first | exact HI0.out | apply IsS58.alloc | apply IsS58.drewN | apply IsS58.drew | apply IsS58.set_1) | exact HI0.out)); (case side2 => repeat (first | (with_reducible first | exact HB.out | apply below_alloc | apply pw_below_drewN | apply below_drew1 | refine below_set ?_ (IsS58.ge HI0.out)) | exact HB.out)); rintro e w73 ⟨rfl, hi, hb, hk⟩; have n0_ := Aside0.mk (KeepBut.trans (by repeat (first | (with_reducible first | exact HK.out | apply KeepBut.set_ | apply keep_drewN | apply keep_drew | apply keep_alloc) | exact HK.out)) hk (.inl rfl)); have n1_ := Aside0.mk (hb); have n2_ := Aside0.mk (hi); clear HK; clear HB; clear HI0; have HK := n0_; have HB := n1_; have HI0 := n2_; clear n0_ n1_ n2_; (try clear hb); (try clear hb2); (try clear hk); (try clear hi))); try go_wp2_with (first | (go_at_call 41; (with_reducible refine (spec_l6Rd_pick.calls k1 g s0_0 x1001_1 2 t209 t210 w0 _ ?side1 ?side2 A9.out).mono ?_); (case side1 => repeat (first | (with_reducible first | exact HI0.out | apply IsS58.alloc | apply IsS58.drewN | apply IsS58.drew | apply IsS58.set_1) | exact HI0.out)); (case side2 => repeat (first | (with_reducible first | exact HB.out | apply below_alloc | apply pw_below_drewN | apply below_drew1 | refine below_set ?_ (IsS58.ge HI0.out)) | exact HB.out)); rintro e w68 ⟨rfl, hi, hb, hk⟩; have n0_ := Aside0.mk (KeepBut.trans (by repeat (first | (with_reducible first | exact HK.out | apply KeepBut.set_ | apply keep_drewN | apply keep_drew | apply keep_alloc) | exact HK.out)) hk (.inl rfl)); have n1_ := Aside0.mk (hb); have n2_ := Aside0.mk (hi); clear HK; clear HB; clear HI0; have HK := n0_; have HB := n1_; have HI0 := n2_; clear n0_ n1_ n2_; (try clear hb); (try clear hb2); (try clear hk); (try clear hi)) | (go_at_call 42; (with_reducible refine (spec_l8Name.calls x8_1 (t209 == 0) t211 _ A10.out).mono ?_); rintro e w69 ⟨rfl, hb⟩; have n0_ := Aside0.mk (IsS58.below (by repeat (first | (with_reducible first | exact HI0.out | apply IsS58.alloc | apply IsS58.drewN | apply IsS58.drew | apply IsS58.set_1) | exact HI0.out)) hb); have n1_ := Aside0.mk (KeepBut.trans (by repeat (first | (with_reducible first | exact HK.out | apply KeepBut.set_ | apply keep_drewN | apply keep_drew | apply keep_alloc) | exact HK.out)) (KeepBut.of_below hb g none) (.inl rfl)); have n2_ := Aside0.mk (below_step (by repeat (first | (with_reducible first | exact HB.out | apply below_alloc | apply pw_below_drewN | apply below_drew1 | refine below_set ?_ (IsS58.ge HI0.out)) | exact HB.out)) hb); clear HI0; clear HK; clear HB; have HI0 := n0_; have HK := n1_; have HB := n2_; clear n0_ n1_ n2_; (try clear hb); (try clear hb2); (try clear hk); (try clear hi)) | (go_at_call 41; (with_reducible refine (spec_l6Rd_pick.calls k1 g s0_0 t210 2 t212 t213 w0 _ ?side1 ?side2 A11.out).mono ?_); (case side1 => repeat (first | (with_reducible first | exact HI0.out | apply IsS58.alloc | apply IsS58.drewN | apply IsS58.drew | apply IsS58.set_1) | exact HI0.out)); (case side2 => repeat (first | (with_reducible first | exact HB.out | apply below_alloc | apply pw_below_drewN | apply below_drew1 | refine below_set ?_ (IsS58.ge HI0.out)) | exact HB.out)); rintro e w70 ⟨rfl, hi, hb, hk⟩; have n0_ := Aside0.mk (KeepBut.trans (by repeat (first | (with_reducible first | exact HK.out | apply KeepBut.set_ | apply keep_drewN | apply keep_drew | apply keep_alloc) | exact HK.out)) hk (.inl rfl)); have n1_ := Aside0.mk (hb); have n2_ := Aside0.mk (hi); clear HK; clear HB; clear HI0; have HK := n0_; have HB := n1_; have HI0 := n2_; clear n0_ n1_ n2_; (try clear hb); (try clear hb2); (try clear hk); (try clear hi)) | (go_at_call 42; (with_reducible refine (spec_l8Name.calls x8_1 (t212 == 0) t214 _ A12.out).mono ?_); rintro e w71 ⟨rfl, hb⟩; have n0_ := Aside0.mk (IsS58.below (by repeat (first | (with_reducible first | exact HI0.out | apply IsS58.alloc | apply IsS58.drewN | apply IsS58.drew | apply IsS58.set_1) | exact HI0.out)) hb); have n1_ := Aside0.mk (KeepBut.trans (by repeat (first | (with_reducible first | exact HK.out | apply KeepBut.set_ | apply keep_drewN | apply keep_drew | apply keep_alloc) | exact HK.out)) (KeepBut.of_below hb g none) (.inl rfl)); have n2_ := Aside0.mk (below_step (by repeat (first | (with_reducible first | exact HB.out | apply below_alloc | apply pw_below_drewN | apply below_drew1 | refine below_set ?_ (IsS58.ge HI0.out)) | exact HB.out)) hb); clear HI0; clear HK; clear HB; have HI0 := n0_; have HK := n1_; have HB := n2_; clear n0_ n1_ n2_; (try clear hb); (try clear hb2); (try clear hk); (try clear hi)) | (go_at_call 41; (with_reducible refine (spec_l6Rd_pick.calls k1 g s0_0 t213 (wrap64 ((x5_1.size : Int) + 1)) t220 t221 w0 _ ?side1 ?side2 A46.out).mono ?_); (case side1 => repeat (first | (with_reducible first | exact HI0.out | apply IsS58.alloc | apply IsS58.drewN | apply IsS58.drew | apply IsS58.set_1) | exact HI0.out)); (case side2 => repeat (first | (with_reducible first | exact HB.out | apply below_alloc | apply pw_below_drewN | apply below_drew1 | refine below_set ?_ (IsS58.ge HI0.out)) | exact HB.out)); rintro e w72 ⟨rfl, hi, hb, hk⟩; have n0_ := Aside0.mk (KeepBut.trans (by repeat (first | (with_reducible first | exact HK.out | apply KeepBut.set_ | apply keep_drewN | apply keep_drew | apply keep_alloc) | exact HK.out)) hk (.inl rfl)); have n1_ := Aside0.mk (hb); have n2_ := Aside0.mk (hi); clear HK; clear HB; clear HI0; have HK := n0_; have HB := n1_; have HI0 := n2_; clear n0_ n1_ n2_; (try clear hb); (try clear hb2); (try clear hk); (try clear hi)) | (go_at_call 41; (with_reducible refine (spec_l6Rd_pick.calls k1 g s0_0 t221 (wrap64 ((zs56.size : Int) + 1)) t222 t223 w0 _ ?side1 ?side2 A57.out).mono ?_); (case side1 => repeat (first | (with_reducible first | exact HI0.out | apply IsS58.alloc | apply IsS58.drewN | apply IsS58.drew | apply IsS58.set_1) | exact HI0.out)); (case side2 => repeat (first | (with_reducible first | exact HB.out | apply below_alloc | apply pw_below_drewN | apply below_drew1 | refine below_set ?_ (IsS58.ge HI0.out)) | exact HB.out)); rintro e w73 ⟨rfl, hi, hb, hk⟩; have n0_ := Aside0.mk (KeepBut.trans (by repeat (first | (with_reducible first | exact HK.out | apply KeepBut.set_ | apply keep_drewN | apply keep_drew | apply keep_alloc) | exact HK.out)) hk (.inl rfl)); have n1_ := Aside0.mk (hb); have n2_ := Aside0.mk (hi); clear HK; clear HB; clear HI0; have HK := n0_; have HB := n1_; have HI0 := n2_; clear n0_ n1_ n2_; (try clear hb); (try clear hb2); (try clear hk); (try clear hi))))
             go_roundg k1
             case measure => have := HK1.out; omega
             case rel => exact ⟨(zs67), (wrap64 (x8_1 + 1)), (t223), (by first | rfl | (simp; done) | (simp [*]; done)), (by first | rfl | (simp; done) | (simp [*]; done)), H', ⟨by have := HK1.out; omega⟩, ⟨by repeat (first | (with_reducible first | exact HI0.out | apply IsS58.alloc | apply IsS58.drewN | apply IsS58.drew | apply IsS58.set_1) | exact HI0.out)⟩, ⟨by repeat (first | (with_reducible first | exact HK.out | apply KeepBut.set_ | apply keep_drewN | apply keep_drew | apply keep_alloc) | exact HK.out)⟩, ⟨by repeat (first | (with_reducible first | exact HB.out | apply below_alloc | apply pw_below_drewN | apply below_drew1 | refine below_set ?_ (IsS58.ge HI0.out)) | exact HB.out)⟩⟩
            ·rw [if_neg c66] at H
             exact absurd H (by simp)
           ·rw [if_neg c61] at H
            exact absurd H (by simp)
          ·rw [if_neg c59] at H
           exact absurd H (by simp)
         ·rw [if_neg c58] at H
          exact absurd H (by simp)
        ·rw [if_neg c55] at H
         exact absurd H (by simp)
       ·rw [if_neg c50] at H
        exact absurd H (by simp)
      ·rw [if_neg c48] at H
       exact absurd H (by simp)
     ·rw [if_neg c47] at H
      exact absurd H (by simp)
   ·rw [if_neg c8] at H
    have c8b0 : decide (x8_1 < (wrap64 (1 + t205))) = false := decide_eq_false c8
    clear c8
    replace H := Option.bind_eq_some_iff.mp H
    obtain ⟨⟨t224, t225⟩, A740, H⟩ := H
    replace H : (if t224 = 0 then ((spec_l6Rd_of.f k1 s0_0 t225 (([(⟨#[97]⟩ : ByteArray), (⟨#[102]⟩ : ByteArray), (⟨#[101, 101]⟩ : ByteArray), (⟨#[32]⟩ : ByteArray), (⟨#[65]⟩ : ByteArray)] : List ByteArray))).bind fun bt229 => (if x5_1.size + bt229.1.size ≤ 9223372036854775807 then (some ((x5_1 ++ bt229.1), bt229.2)) else (none))) else (some (x5_1, t225))) = some (r1, r2) := H
    have A74 := Aside0.mk A740
    clear A740
    by_cases c75 : t224 = 0
    ·rw [if_pos c75] at H
     have c75b0 : (t224 == 0) = true := beq_iff_eq.mpr c75
     have c75b1 : (t224 != 0) = false := bne_eq_false_iff_eq.mpr c75
     clear c75
     obtain ⟨y226, hy226⟩ : ∃ y_ : List ByteArray, y_ = (([(⟨#[97]⟩ : ByteArray), (⟨#[102]⟩ : ByteArray), (⟨#[101, 101]⟩ : ByteArray), (⟨#[32]⟩ : ByteArray), (⟨#[65]⟩ : ByteArray)] : List ByteArray)) := ⟨_, rfl⟩
     replace H : ((spec_l6Rd_of.f k1 s0_0 t225 y226).bind fun bt229 => (if x5_1.size + bt229.1.size ≤ 9223372036854775807 then (some ((x5_1 ++ bt229.1), bt229.2)) else (none))) = some (r1, r2) := by first | (rw [hy226]; with_reducible exact H) | (have H2_ := (Option.bind_some _ _).symm.trans H; rw [hy226]; with_reducible exact H2_) | (have H2_ := (Option.bind_some _ _).symm.trans H; with_reducible exact H2_) | with_reducible exact H | (rw [hy226]; exact H) | exact H
     have Ny226 := Aside0.mk hy226
     clear hy226
     replace H := Option.bind_eq_some_iff.mp H
     obtain ⟨⟨t229, t230⟩, A760, H⟩ := H
     replace H : (if x5_1.size + t229.size ≤ 9223372036854775807 then (some ((x5_1 ++ t229), t230)) else (none)) = some (r1, r2) := H
     have A76 := Aside0.mk A760
     clear A760
     by_cases c77 : x5_1.size + t229.size ≤ 9223372036854775807
     ·rw [if_pos c77] at H
      have c77b0 := eq_true c77
      have c77b1 : decide (x5_1.size + t229.size ≤ 9223372036854775807) = true := decide_eq_true c77
      try have c77b2 : (9223372036854775807 < x5_1.size + t229.size) = False := eq_false (Nat.not_lt.2 c77)
      obtain ⟨zs78, hzs78⟩ : ∃ j_ : ByteArray, (x5_1 ++ t229) = j_ := ⟨_, rfl⟩
      replace H : (some (zs78, t230)) = some (r1, r2) := by first | (rw [hzs78] at H; exact H) | (simp only [hzs78] at H ⊢; exact H) | exact H
      (try rw [hzs78] at A74)
      (try rw [hzs78] at A76)
      simp only [Option.some.injEq, Prod.mk.injEq] at H
      obtain ⟨rfl, rfl⟩ := H
      go_wp2_with (first | (go_at_call 41; (with_reducible refine (spec_l6Rd_pick.calls k1 g s0_0 x1001_1 24 t224 t225 w0 _ ?side1 ?side2 A74.out).mono ?_); (case side1 => repeat (first | (with_reducible first | exact HI0.out | apply IsS58.alloc | apply IsS58.drewN | apply IsS58.drew | apply IsS58.set_1) | exact HI0.out)); (case side2 => repeat (first | (with_reducible first | exact HB.out | apply below_alloc | apply pw_below_drewN | apply below_drew1 | refine below_set ?_ (IsS58.ge HI0.out)) | exact HB.out)); rintro e w79 ⟨rfl, hi, hb, hk⟩; have n0_ := Aside0.mk (KeepBut.trans (by repeat (first | (with_reducible first | exact HK.out | apply KeepBut.set_ | apply keep_drewN | apply keep_drew | apply keep_alloc) | exact HK.out)) hk (.inl rfl)); have n1_ := Aside0.mk (hb); have n2_ := Aside0.mk (hi); clear HK; clear HB; clear HI0; have HK := n0_; have HB := n1_; have HI0 := n2_; clear n0_ n1_ n2_; (try clear hb); (try clear hb2); (try clear hk); (try clear hi)) | ((with_reducible refine gate_dst (N := 71) rfl ?_); refine Kd.R_lit Kd.string _ 9 ?hg (N := 71) ?hd (xs := ([(⟨#[97]⟩ : ByteArray), (⟨#[102]⟩ : ByteArray), (⟨#[101, 101]⟩ : ByteArray), (⟨#[32]⟩ : ByteArray), (⟨#[65]⟩ : ByteArray)] : List ByteArray)) (inner := [.string (⟨#[97]⟩ : ByteArray), .string (⟨#[102]⟩ : ByteArray), .string (⟨#[101, 101]⟩ : ByteArray), .string (⟨#[32]⟩ : ByteArray), .string (⟨#[65]⟩ : ByteArray)]) (ok := fun _ => True) (okp := fun _ => True) ?hr ?hp (fun _ hk => hk) trivial (Below.refl _ _) (Nat.le_refl _) (by simp) ?_; (case hd => rfl); (case hg => rfl); (case hr => first | (go_simp; done) | (go_simp; rfl)); (case hp => exact (Reps.one (show Kd.M Kd.string _ _ _ (⟨#[97]⟩ : ByteArray) [.string (⟨#[97]⟩ : ByteArray)] from rfl) (Reps.one (show Kd.M Kd.string _ _ _ (⟨#[102]⟩ : ByteArray) [.string (⟨#[102]⟩ : ByteArray)] from rfl) (Reps.one (show Kd.M Kd.string _ _ _ (⟨#[101, 101]⟩ : ByteArray) [.string (⟨#[101, 101]⟩ : ByteArray)] from rfl) (Reps.one (show Kd.M Kd.string _ _ _ (⟨#[32]⟩ : ByteArray) [.string (⟨#[32]⟩ : ByteArray)] from rfl) (Reps.one (show Kd.M Kd.string _ _ _ (⟨#[65]⟩ : ByteArray) [.string (⟨#[65]⟩ : ByteArray)] from rfl) (Reps.none _ _))))))); intro v227 w80 ho81 hb hg_ hnew_; clear hg_ hnew_; (first | rw [← Ny226.out] at ho81 | (simp only [Int.reduceToNat] at ho81; rw [← Ny226.out] at ho81)); have n0_ := Aside0.mk (Kd.R_lower ho81 (keep_size (w := w) (g := g) (row := none) (by repeat (first | (with_reducible first | exact HK.out | apply KeepBut.set_ | apply keep_drewN | apply keep_drew | apply keep_alloc) | exact HK.out)))); have n1_ := Aside0.mk (IsS58.below (by repeat (first | (with_reducible first | exact HI0.out | apply IsS58.alloc | apply IsS58.drewN | apply IsS58.drew | apply IsS58.set_1) | exact HI0.out)) hb); have n2_ := Aside0.mk (KeepBut.trans (by repeat (first | (with_reducible first | exact HK.out | apply KeepBut.set_ | apply keep_drewN | apply keep_drew | apply keep_alloc) | exact HK.out)) (KeepBut.of_below hb g none) (.inl rfl)); have n3_ := Aside0.mk (below_step (by repeat (first | (with_reducible first | exact HB.out | apply below_alloc | apply pw_below_drewN | apply below_drew1 | refine below_set ?_ (IsS58.ge HI0.out)) | exact HB.out)) hb); clear HI0; clear HK; clear HB; have HO228 := n0_; have HI0 := n1_; have HK := n2_; have HB := n3_; clear n0_ n1_ n2_ n3_; clear hb ho81; obtain ⟨Ao82, co82, eo82⟩ := Kd.R_slice HO228.out; subst eo82) | (go_at_call 44; (with_reducible refine (spec_l6Rd_of.calls k1 g s0_0 t225 _ _ y226 t229 t230 w0 _ ?side1 ?side2 ?side3 ?side4 ?side5 A76.out).mono ?_); (case side1 => repeat (first | (with_reducible first | exact HI0.out | apply IsS58.alloc | apply IsS58.drewN | apply IsS58.drew | apply IsS58.set_1) | exact HI0.out)); (case side2 => repeat (first | (with_reducible first | exact HB.out | apply below_alloc | apply pw_below_drewN | apply below_drew1 | refine below_set ?_ (IsS58.ge HI0.out)) | exact HB.out)); (case side3 => repeat (first | exact (Kd.R_reads' HO228.out).2.2 | (with_reducible refine Kd.C_alloc ?_ _) | (with_reducible refine Kd.C_drewN ?_ _) | (with_reducible refine Kd.C_drew ?_))); (case side4 => exact (Kd.R_reads' HO228.out).2.1); (case side5 => exact far_slice (IsS58.own_ne HI0.out HO228.out (by decide))); rintro e w83 ⟨rfl, hi, hb, hk⟩; have n0_ := Aside0.mk (Kd.R_mono (Kd.R_keep (IsS58.apart (show IsS58 w0 _ g s0_0 t225 from by repeat (first | (with_reducible first | exact HI0.out | apply IsS58.alloc | apply IsS58.drewN | apply IsS58.drew | apply IsS58.set_1) | exact HI0.out)) (by (with_reducible repeat (first | apply Kd.R_alloc | apply Kd.R_drewN | apply Kd.R_drew)); exact HO228.out) (by decide)) hk (fun _ h => h.2)) (fun _ h => h.1)); have n1_ := Aside0.mk (KeepBut.trans (by repeat (first | (with_reducible first | exact HK.out | apply KeepBut.set_ | apply keep_drewN | apply keep_drew | apply keep_alloc) | exact HK.out)) hk (.inl rfl)); have n2_ := Aside0.mk (hb); have n3_ := Aside0.mk (hi); clear HO228; clear HK; clear HB; clear HI0; have HO228 := n0_; have HK := n1_; have HB := n2_; have HI0 := n3_; clear n0_ n1_ n2_ n3_; (try clear hb); (try clear hb2); (try clear hk); (try clear hi)))
      repeat (go_quiet (first | (go_at_call 41; (with_reducible refine (spec_l6Rd_pick.calls k1 g s0_0 x1001_1 24 t224 t225 w0 _ ?side1 ?side2 A74.out).mono ?_); (case side1 => repeat (first | (with_reducible first | exact HI0.out | apply IsS58.alloc | apply IsS58.drewN | apply IsS58.drew | apply IsS58.set_1) | exact HI0.out)); (case side2 => repeat (first | (with_reducible first | exact HB.out | apply below_alloc | apply pw_below_drewN | apply below_drew1 | refine below_set ?_ (IsS58.ge HI0.out)) | exact HB.out)); rintro e w79 ⟨rfl, hi, hb, hk⟩; have n0_ := Aside0.mk (KeepBut.trans (by repeat (first | (with_reducible first | exact HK.out | apply KeepBut.set_ | apply keep_drewN | apply keep_drew | apply keep_alloc) | exact HK.out)) hk (.inl rfl)); have n1_ := Aside0.mk (hb); have n2_ := Aside0.mk (hi); clear HK; clear HB; clear HI0; have HK := n0_; have HB := n1_; have HI0 := n2_; clear n0_ n1_ n2_; (try clear hb); (try clear hb2); (try clear hk); (try clear hi)) | ((with_reducible refine gate_dst (N := 71) rfl ?_); refine Kd.R_lit Kd.string _ 9 ?hg (N := 71) ?hd (xs := ([(⟨#[97]⟩ : ByteArray), (⟨#[102]⟩ : ByteArray), (⟨#[101, 101]⟩ : ByteArray), (⟨#[32]⟩ : ByteArray), (⟨#[65]⟩ : ByteArray)] : List ByteArray)) (inner := [.string (⟨#[97]⟩ : ByteArray), .string (⟨#[102]⟩ : ByteArray), .string (⟨#[101, 101]⟩ : ByteArray), .string (⟨#[32]⟩ : ByteArray), .string (⟨#[65]⟩ : ByteArray)]) (ok := fun _ => True) (okp := fun _ => True) ?hr ?hp (fun _ hk => hk) trivial (Below.refl _ _) (Nat.le_refl _) (by simp) ?_; (case hd => rfl); (case hg => rfl); (case hr => first | (go_simp; done) | (go_simp; rfl)); (case hp => exact (Reps.one (show Kd.M Kd.string _ _ _ (⟨#[97]⟩ : ByteArray) [.string (⟨#[97]⟩ : ByteArray)] from rfl) (Reps.one (show Kd.M Kd.string _ _ _ (⟨#[102]⟩ : ByteArray) [.string (⟨#[102]⟩ : ByteArray)] from rfl) (Reps.one (show Kd.M Kd.string _ _ _ (⟨#[101, 101]⟩ : ByteArray) [.string (⟨#[101, 101]⟩ : ByteArray)] from rfl) (Reps.one (show Kd.M Kd.string _ _ _ (⟨#[32]⟩ : ByteArray) [.string (⟨#[32]⟩ : ByteArray)] from rfl) (Reps.one (show Kd.M Kd.string _ _ _ (⟨#[65]⟩ : ByteArray) [.string (⟨#[65]⟩ : ByteArray)] from rfl) (Reps.none _ _))))))); intro v227 w80 ho81 hb hg_ hnew_; clear hg_ hnew_; (first | rw [← Ny226.out] at ho81 | (simp only [Int.reduceToNat] at ho81; rw [← Ny226.out] at ho81)); have n0_ := Aside0.mk (Kd.R_lower ho81 (keep_size (w := w) (g := g) (row := none) (by repeat (first | (with_reducible first | exact HK.out | apply KeepBut.set_ | apply keep_drewN | apply keep_drew | apply keep_alloc) | exact HK.out)))); have n1_ := Aside0.mk (IsS58.below (by repeat (first | (with_reducible first | exact HI0.out | apply IsS58.alloc | apply IsS58.drewN | apply IsS58.drew | apply IsS58.set_1) | exact HI0.out)) hb); have n2_ := Aside0.mk (KeepBut.trans (by repeat (first | (with_reducible first | exact HK.out | apply KeepBut.set_ | apply keep_drewN | apply keep_drew | apply keep_alloc) | exact HK.out)) (KeepBut.of_below hb g none) (.inl rfl)); have n3_ := Aside0.mk (below_step (by repeat (first | (with_reducible first | exact HB.out | apply below_alloc | apply pw_below_drewN | apply below_drew1 | refine below_set ?_ (IsS58.ge HI0.out)) | exact HB.out)) hb); clear HI0; clear HK; clear HB; have HO228 := n0_; have HI0 := n1_; have HK := n2_; have HB := n3_; clear n0_ n1_ n2_ n3_; clear hb ho81; obtain ⟨Ao82, co82, eo82⟩ := Kd.R_slice HO228.out; subst eo82) | (go_at_call 44; (with_reducible refine (spec_l6Rd_of.calls k1 g s0_0 t225 _ _ y226 t229 t230 w0 _ ?side1 ?side2 ?side3 ?side4 ?side5 A76.out).mono ?_); (case side1 => repeat (first | (with_reducible first | exact HI0.out | apply IsS58.alloc | apply IsS58.drewN | apply IsS58.drew | apply IsS58.set_1) | exact HI0.out)); (case side2 => repeat (first | (with_reducible first | exact HB.out | apply below_alloc | apply pw_below_drewN | apply below_drew1 | refine below_set ?_ (IsS58.ge HI0.out)) | exact HB.out)); (case side3 => repeat (first | exact (Kd.R_reads' HO228.out).2.2 | (with_reducible refine Kd.C_alloc ?_ _) | (with_reducible refine Kd.C_drewN ?_ _) | (with_reducible refine Kd.C_drew ?_))); (case side4 => exact (Kd.R_reads' HO228.out).2.1); (case side5 => exact far_slice (IsS58.own_ne HI0.out HO228.out (by decide))); rintro e w83 ⟨rfl, hi, hb, hk⟩; have n0_ := Aside0.mk (Kd.R_mono (Kd.R_keep (IsS58.apart (show IsS58 w0 _ g s0_0 t225 from by repeat (first | (with_reducible first | exact HI0.out | apply IsS58.alloc | apply IsS58.drewN | apply IsS58.drew | apply IsS58.set_1) | exact HI0.out)) (by (with_reducible repeat (first | apply Kd.R_alloc | apply Kd.R_drewN | apply Kd.R_drew)); exact HO228.out) (by decide)) hk (fun _ h => h.2)) (fun _ h => h.1)); have n1_ := Aside0.mk (KeepBut.trans (by repeat (first | (with_reducible first | exact HK.out | apply KeepBut.set_ | apply keep_drewN | apply keep_drew | apply keep_alloc) | exact HK.out)) hk (.inl rfl)); have n2_ := Aside0.mk (hb); have n3_ := Aside0.mk (hi); clear HO228; clear HK; clear HB; clear HI0; have HO228 := n0_; have HK := n1_; have HB := n2_; have HI0 := n3_; clear n0_ n1_ n2_ n3_; (try clear hb); (try clear hb2); (try clear hk); (try clear hi))); try go_wp2_with (first | (go_at_call 41; (with_reducible refine (spec_l6Rd_pick.calls k1 g s0_0 x1001_1 24 t224 t225 w0 _ ?side1 ?side2 A74.out).mono ?_); (case side1 => repeat (first | (with_reducible first | exact HI0.out | apply IsS58.alloc | apply IsS58.drewN | apply IsS58.drew | apply IsS58.set_1) | exact HI0.out)); (case side2 => repeat (first | (with_reducible first | exact HB.out | apply below_alloc | apply pw_below_drewN | apply below_drew1 | refine below_set ?_ (IsS58.ge HI0.out)) | exact HB.out)); rintro e w79 ⟨rfl, hi, hb, hk⟩; have n0_ := Aside0.mk (KeepBut.trans (by repeat (first | (with_reducible first | exact HK.out | apply KeepBut.set_ | apply keep_drewN | apply keep_drew | apply keep_alloc) | exact HK.out)) hk (.inl rfl)); have n1_ := Aside0.mk (hb); have n2_ := Aside0.mk (hi); clear HK; clear HB; clear HI0; have HK := n0_; have HB := n1_; have HI0 := n2_; clear n0_ n1_ n2_; (try clear hb); (try clear hb2); (try clear hk); (try clear hi)) | ((with_reducible refine gate_dst (N := 71) rfl ?_); refine Kd.R_lit Kd.string _ 9 ?hg (N := 71) ?hd (xs := ([(⟨#[97]⟩ : ByteArray), (⟨#[102]⟩ : ByteArray), (⟨#[101, 101]⟩ : ByteArray), (⟨#[32]⟩ : ByteArray), (⟨#[65]⟩ : ByteArray)] : List ByteArray)) (inner := [.string (⟨#[97]⟩ : ByteArray), .string (⟨#[102]⟩ : ByteArray), .string (⟨#[101, 101]⟩ : ByteArray), .string (⟨#[32]⟩ : ByteArray), .string (⟨#[65]⟩ : ByteArray)]) (ok := fun _ => True) (okp := fun _ => True) ?hr ?hp (fun _ hk => hk) trivial (Below.refl _ _) (Nat.le_refl _) (by simp) ?_; (case hd => rfl); (case hg => rfl); (case hr => first | (go_simp; done) | (go_simp; rfl)); (case hp => exact (Reps.one (show Kd.M Kd.string _ _ _ (⟨#[97]⟩ : ByteArray) [.string (⟨#[97]⟩ : ByteArray)] from rfl) (Reps.one (show Kd.M Kd.string _ _ _ (⟨#[102]⟩ : ByteArray) [.string (⟨#[102]⟩ : ByteArray)] from rfl) (Reps.one (show Kd.M Kd.string _ _ _ (⟨#[101, 101]⟩ : ByteArray) [.string (⟨#[101, 101]⟩ : ByteArray)] from rfl) (Reps.one (show Kd.M Kd.string _ _ _ (⟨#[32]⟩ : ByteArray) [.string (⟨#[32]⟩ : ByteArray)] from rfl) (Reps.one (show Kd.M Kd.string _ _ _ (⟨#[65]⟩ : ByteArray) [.string (⟨#[65]⟩ : ByteArray)] from rfl) (Reps.none _ _))))))); intro v227 w80 ho81 hb hg_ hnew_; clear hg_ hnew_; (first | rw [← Ny226.out] at ho81 | (simp only [Int.reduceToNat] at ho81; rw [← Ny226.out] at ho81)); have n0_ := Aside0.mk (Kd.R_lower ho81 (keep_size (w := w) (g := g) (row := none) (by repeat (first | (with_reducible first | exact HK.out | apply KeepBut.set_ | apply keep_drewN | apply keep_drew | apply keep_alloc) | exact HK.out)))); have n1_ := Aside0.mk (IsS58.below (by repeat (first | (with_reducible first | exact HI0.out | apply IsS58.alloc | apply IsS58.drewN | apply IsS58.drew | apply IsS58.set_1) | exact HI0.out)) hb); have n2_ := Aside0.mk (KeepBut.trans (by repeat (first | (with_reducible first | exact HK.out | apply KeepBut.set_ | apply keep_drewN | apply keep_drew | apply keep_alloc) | exact HK.out)) (KeepBut.of_below hb g none) (.inl rfl)); have n3_ := Aside0.mk (below_step (by repeat (first | (with_reducible first | exact HB.out | apply below_alloc | apply pw_below_drewN | apply below_drew1 | refine below_set ?_ (IsS58.ge HI0.out)) | exact HB.out)) hb); clear HI0; clear HK; clear HB; have HO228 := n0_; have HI0 := n1_; have HK := n2_; have HB := n3_; clear n0_ n1_ n2_ n3_; clear hb ho81; obtain ⟨Ao82, co82, eo82⟩ := Kd.R_slice HO228.out; subst eo82) | (go_at_call 44; (with_reducible refine (spec_l6Rd_of.calls k1 g s0_0 t225 _ _ y226 t229 t230 w0 _ ?side1 ?side2 ?side3 ?side4 ?side5 A76.out).mono ?_); (case side1 => repeat (first | (with_reducible first | exact HI0.out | apply IsS58.alloc | apply IsS58.drewN | apply IsS58.drew | apply IsS58.set_1) | exact HI0.out)); (case side2 => repeat (first | (with_reducible first | exact HB.out | apply below_alloc | apply pw_below_drewN | apply below_drew1 | refine below_set ?_ (IsS58.ge HI0.out)) | exact HB.out)); (case side3 => repeat (first | exact (Kd.R_reads' HO228.out).2.2 | (with_reducible refine Kd.C_alloc ?_ _) | (with_reducible refine Kd.C_drewN ?_ _) | (with_reducible refine Kd.C_drew ?_))); (case side4 => exact (Kd.R_reads' HO228.out).2.1); (case side5 => exact far_slice (IsS58.own_ne HI0.out HO228.out (by decide))); rintro e w83 ⟨rfl, hi, hb, hk⟩; have n0_ := Aside0.mk (Kd.R_mono (Kd.R_keep (IsS58.apart (show IsS58 w0 _ g s0_0 t225 from by repeat (first | (with_reducible first | exact HI0.out | apply IsS58.alloc | apply IsS58.drewN | apply IsS58.drew | apply IsS58.set_1) | exact HI0.out)) (by (with_reducible repeat (first | apply Kd.R_alloc | apply Kd.R_drewN | apply Kd.R_drew)); exact HO228.out) (by decide)) hk (fun _ h => h.2)) (fun _ h => h.1)); have n1_ := Aside0.mk (KeepBut.trans (by repeat (first | (with_reducible first | exact HK.out | apply KeepBut.set_ | apply keep_drewN | apply keep_drew | apply keep_alloc) | exact HK.out)) hk (.inl rfl)); have n2_ := Aside0.mk (hb); have n3_ := Aside0.mk (hi); clear HO228; clear HK; clear HB; clear HI0; have HO228 := n0_; have HK := n1_; have HB := n2_; have HI0 := n3_; clear n0_ n1_ n2_ n3_; (try clear hb); (try clear hb2); (try clear hk); (try clear hi))))
      go_ret
      exact ⟨by first | rfl | (simp [errW_none, errW_some] <;> rfl) | (simp [*, errW_none, errW_some] <;> rfl), by repeat (first | (with_reducible first | exact HI0.out | apply IsS58.alloc | apply IsS58.drewN | apply IsS58.drew | apply IsS58.set_1) | exact HI0.out), by repeat (first | (with_reducible first | exact HB.out | apply below_alloc | apply pw_below_drewN | apply below_drew1 | refine below_set ?_ (IsS58.ge HI0.out)) | exact HB.out), by repeat (first | (with_reducible first | exact HK.out | apply KeepBut.set_ | apply keep_drewN | apply keep_drew | apply keep_alloc) | exact HK.out)⟩
     ·rw [if_neg c77] at H
      exact absurd H (by simp)
    ·rw [if_neg c75] at H
     have c75b0 : (t224 == 0) = false := beq_eq_false_iff_ne.mpr c75
     have c75b1 : (t224 != 0) = true := bne_iff_ne.mpr c75
     simp only [Option.some.injEq, Prod.mk.injEq] at H
     obtain ⟨rfl, rfl⟩ := H
     go_wp2_with (first | (go_at_call 41; (with_reducible refine (spec_l6Rd_pick.calls k1 g s0_0 x1001_1 24 t224 t225 w0 _ ?side1 ?side2 A74.out).mono ?_); (case side1 => repeat (first | (with_reducible first | exact HI0.out | apply IsS58.alloc | apply IsS58.drewN | apply IsS58.drew | apply IsS58.set_1) | exact HI0.out)); (case side2 => repeat (first | (with_reducible first | exact HB.out | apply below_alloc | apply pw_below_drewN | apply below_drew1 | refine below_set ?_ (IsS58.ge HI0.out)) | exact HB.out)); rintro e w84 ⟨rfl, hi, hb, hk⟩; have n0_ := Aside0.mk (KeepBut.trans (by repeat (first | (with_reducible first | exact HK.out | apply KeepBut.set_ | apply keep_drewN | apply keep_drew | apply keep_alloc) | exact HK.out)) hk (.inl rfl)); have n1_ := Aside0.mk (hb); have n2_ := Aside0.mk (hi); clear HK; clear HB; clear HI0; have HK := n0_; have HB := n1_; have HI0 := n2_; clear n0_ n1_ n2_; (try clear hb); (try clear hb2); (try clear hk); (try clear hi)))
     repeat (go_quiet (first | (go_at_call 41; (with_reducible refine (spec_l6Rd_pick.calls k1 g s0_0 x1001_1 24 t224 t225 w0 _ ?side1 ?side2 A74.out).mono ?_); (case side1 => repeat (first | (with_reducible first | exact HI0.out | apply IsS58.alloc | apply IsS58.drewN | apply IsS58.drew | apply IsS58.set_1) | exact HI0.out)); (case side2 => repeat (first | (with_reducible first | exact HB.out | apply below_alloc | apply pw_below_drewN | apply below_drew1 | refine below_set ?_ (IsS58.ge HI0.out)) | exact HB.out)); rintro e w84 ⟨rfl, hi, hb, hk⟩; have n0_ := Aside0.mk (KeepBut.trans (by repeat (first | (with_reducible first | exact HK.out | apply KeepBut.set_ | apply keep_drewN | apply keep_drew | apply keep_alloc) | exact HK.out)) hk (.inl rfl)); have n1_ := Aside0.mk (hb); have n2_ := Aside0.mk (hi); clear HK; clear HB; clear HI0; have HK := n0_; have HB := n1_; have HI0 := n2_; clear n0_ n1_ n2_; (try clear hb); (try clear hb2); (try clear hk); (try clear hi))); try go_wp2_with (first | (go_at_call 41; (with_reducible refine (spec_l6Rd_pick.calls k1 g s0_0 x1001_1 24 t224 t225 w0 _ ?side1 ?side2 A74.out).mono ?_); (case side1 => repeat (first | (with_reducible first | exact HI0.out | apply IsS58.alloc | apply IsS58.drewN | apply IsS58.drew | apply IsS58.set_1) | exact HI0.out)); (case side2 => repeat (first | (with_reducible first | exact HB.out | apply below_alloc | apply pw_below_drewN | apply below_drew1 | refine below_set ?_ (IsS58.ge HI0.out)) | exact HB.out)); rintro e w84 ⟨rfl, hi, hb, hk⟩; have n0_ := Aside0.mk (KeepBut.trans (by repeat (first | (with_reducible first | exact HK.out | apply KeepBut.set_ | apply keep_drewN | apply keep_drew | apply keep_alloc) | exact HK.out)) hk (.inl rfl)); have n1_ := Aside0.mk (hb); have n2_ := Aside0.mk (hi); clear HK; clear HB; clear HI0; have HK := n0_; have HB := n1_; have HI0 := n2_; clear n0_ n1_ n2_; (try clear hb); (try clear hb2); (try clear hk); (try clear hi))))
     go_ret
     exact ⟨by first | rfl | (simp [errW_none, errW_some] <;> rfl) | (simp [*, errW_none, errW_some] <;> rfl), by repeat (first | (with_reducible first | exact HI0.out | apply IsS58.alloc | apply IsS58.drewN | apply IsS58.drew | apply IsS58.set_1) | exact HI0.out), by repeat (first | (with_reducible first | exact HB.out | apply below_alloc | apply pw_below_drewN | apply below_drew1 | refine below_set ?_ (IsS58.ge HI0.out)) | exact HB.out), by repeat (first | (with_reducible first | exact HK.out | apply KeepBut.set_ | apply keep_drewN | apply keep_drew | apply keep_alloc) | exact HK.out)⟩

/-! ### spec_l6Open: function 26 -/
def spec_l6Open.f (l0 : List Int) : Option (List Int × Int) := if (l0.length : Int) > 2000 then (if 2000 ≤ (l0.length : Int) then (some (l0.take 2000, 0)) else (none)) else (some (l0, 0))
set_option maxHeartbeats 8000000 in
set_option maxRecDepth 100000 in
theorem spec_l6Open.calls (A0 : Option Addr) (c0 : Nat) (l0 : List Int) (r1 : List Int) (r2 : Int) (w0 w : World) (hB : Below w0.heap.size w0 w) (hr0 : Kd.C (Kd.int .u8) w0 A0 l0.length l0) (hc0 : l0.length ≤ c0) (h : spec_l6Open.f l0 = some (r1, r2)) :
    Calls Try.prog 26 #[.slice A0 l0.length c0] w fun e w' => ∃ g_ : Nat, e = .returned (.pointer (some ⟨g_, 0, none⟩)) ∧ IsS58 w0 w' g_ r1 r2 ∧ Below w0.heap.size w0 w' ∧ Below w.heap.size w w' := by
 have hu58 := Try.underlying58
 have HR0 := Aside0.mk hr0
 have HC0 := Aside0.mk hc0
 clear hr0 hc0
 have HBW := Aside0.mk (Below.refl w.heap.size w)
 have HW0 := Aside0.mk hB.size
 have HB := Aside0.mk hB
 clear hB
 have H : (if (l0.length : Int) > 2000 then (if 2000 ≤ (l0.length : Int) then (some (l0.take 2000, 0)) else (none)) else (some (l0, 0))) = some (r1, r2) := h
 clear h
 by_cases c2 : (l0.length : Int) > 2000
 ·rw [if_pos c2] at H
  have c2b0 : decide (2000 < (l0.length : Int)) = true := decide_eq_true c2
  have c2b1 : decide (2000 < l0.length) = true := decide_eq_true (by omega)
  clear c2
  by_cases c3 : 2000 ≤ (l0.length : Int)
  ·rw [if_pos c3] at H
   have c3b0 := eq_true c3
   have c3b1 : decide (2000 ≤ (l0.length : Int)) = true := decide_eq_true c3
   clear c3
   simp only [Option.some.injEq, Prod.mk.injEq] at H
   obtain ⟨rfl, rfl⟩ := H
   obtain ⟨i04, hi04, _, hsz4, _⟩ := info_parts info5
   obtain ⟨hcut4, hA4, hC4⟩ := print_take_of (P := Try.prog) (Value.int .u8) 0 22 5 .i64 Try.underlying22 hi04 hsz4 A0 c0 l0 2000 (by omega) (of_decide_eq_true (by first | (with_reducible assumption) | assumption)) HC0.out
   have HR231 := Aside0.mk (Kd.C_of_reads (h1 := fun _ => rfl) (hA4 _ (Kd.reads_of_C HR0.out)))
   have HC231 := Aside0.mk hC4
   clear hA4 hC4 hi04 hsz4
   go_enter Try.func26, Try.ntmps26
   go_wp2_with (first | ((with_reducible refine gate_dst (N := 10) rfl ?_); refine box_event ?hg (N := 10) ?hd (cs := #[.slice A0 (l0.take 2000).length c0, .int .i64 0]) (t := 58) ?hr ?_; (case hd => rfl); (case hg => rfl); (case hr => first | (go_simp; done) | (go_simp; rfl)); intro gb232 hg w5 hbox hb; have n0_ := Aside0.mk (below_step HBW.out hb); have n1_ := Aside0.mk (below_step (by repeat (first | (with_reducible first | exact HB.out | apply below_alloc | apply pw_below_drewN | apply below_drew1) | exact HB.out)) hb); have n2_ := Aside0.mk (hbox); have n3_ := Aside0.mk ((by rw [hg]; exact (below_size (by repeat (first | (with_reducible first | exact HBW.out | apply below_alloc | apply pw_below_drewN | apply below_drew1) | exact HBW.out))) : w.heap.size ≤ gb232)); have n4_ := Aside0.mk ((Nat.le_trans HW0.out (by rw [hg]; exact (below_size (by repeat (first | (with_reducible first | exact HBW.out | apply below_alloc | apply pw_below_drewN | apply below_drew1) | exact HBW.out))) : w.heap.size ≤ gb232) : w0.heap.size ≤ gb232)); clear HBW; clear HB; have HBW := n0_; have HB := n1_; have BK232 := n2_; have GW232 := n3_; have GE232 := n4_; clear n0_ n1_ n2_ n3_ n4_; clear hb hbox hg))
   go_ret
   exact ⟨_, rfl, (show IsS58 w0 _ gb232 (l0.take 2000) 0 from ⟨_, _, by (with_reducible repeat (first | refine blk_drewN ?_ _ | refine blk_drew ?_ | refine blk_alloc ?_ _)); exact BK232.out, GE232.out, HR231.out⟩), by repeat (first | (with_reducible first | exact HB.out | apply below_alloc | apply pw_below_drewN | apply below_drew1 | refine below_set ?_ GE232.out) | exact HB.out), by repeat (first | (with_reducible first | exact HBW.out | apply below_alloc | apply pw_below_drewN | apply below_drew1 | refine below_set ?_ GW232.out) | exact HBW.out)⟩
  ·rw [if_neg c3] at H
   exact absurd H (by simp)
 ·rw [if_neg c2] at H
  have c2b0 : decide (2000 < (l0.length : Int)) = false := decide_eq_false c2
  have c2b1 : decide (2000 < l0.length) = false := decide_eq_false (by omega)
  clear c2
  simp only [Option.some.injEq, Prod.mk.injEq] at H
  obtain ⟨rfl, rfl⟩ := H
  go_enter Try.func26, Try.ntmps26
  go_wp2_with (first | ((with_reducible refine gate_dst (N := 10) rfl ?_); refine box_event ?hg (N := 10) ?hd (cs := #[.slice A0 l0.length c0, .int .i64 0]) (t := 58) ?hr ?_; (case hd => rfl); (case hg => rfl); (case hr => first | (go_simp; done) | (go_simp; rfl)); intro gb233 hg w6 hbox hb; have n0_ := Aside0.mk (below_step HBW.out hb); have n1_ := Aside0.mk (below_step (by repeat (first | (with_reducible first | exact HB.out | apply below_alloc | apply pw_below_drewN | apply below_drew1) | exact HB.out)) hb); have n2_ := Aside0.mk (hbox); have n3_ := Aside0.mk ((by rw [hg]; exact (below_size (by repeat (first | (with_reducible first | exact HBW.out | apply below_alloc | apply pw_below_drewN | apply below_drew1) | exact HBW.out))) : w.heap.size ≤ gb233)); have n4_ := Aside0.mk ((Nat.le_trans HW0.out (by rw [hg]; exact (below_size (by repeat (first | (with_reducible first | exact HBW.out | apply below_alloc | apply pw_below_drewN | apply below_drew1) | exact HBW.out))) : w.heap.size ≤ gb233) : w0.heap.size ≤ gb233)); clear HBW; clear HB; have HBW := n0_; have HB := n1_; have BK233 := n2_; have GW233 := n3_; have GE233 := n4_; clear n0_ n1_ n2_ n3_ n4_; clear hb hbox hg))
  go_ret
  exact ⟨_, rfl, (show IsS58 w0 _ gb233 l0 0 from ⟨_, _, by (with_reducible repeat (first | refine blk_drewN ?_ _ | refine blk_drew ?_ | refine blk_alloc ?_ _)); exact BK233.out, GE233.out, HR0.out⟩), by repeat (first | (with_reducible first | exact HB.out | apply below_alloc | apply pw_below_drewN | apply below_drew1 | refine below_set ?_ GE233.out) | exact HB.out), by repeat (first | (with_reducible first | exact HBW.out | apply below_alloc | apply pw_below_drewN | apply below_drew1 | refine below_set ?_ GW233.out) | exact HBW.out)⟩

/-! ### spec_DrawWordCorners: function 15 -/
def spec_DrawWordCorners.f (k : Nat) (l0 : List Int) : Option (ByteArray) := (spec_l6Open.f l0).bind fun bt234 => ((spec_l92Word.f k bt234.1 bt234.2 5).bind fun bt237 => (some bt237.1))
set_option maxHeartbeats 8000000 in
set_option maxRecDepth 100000 in
theorem spec_DrawWordCorners.calls (k : Nat) (A0 : Option Addr) (c0 : Nat) (l0 : List Int) (r : ByteArray) (w : World) (hr0 : Kd.C (Kd.int .u8) w A0 l0.length l0) (hc0 : l0.length ≤ c0) (h : spec_DrawWordCorners.f k l0 = some r) :
    Calls Try.prog 15 #[.slice A0 l0.length c0] w fun e w' => e = .returned (.string r) ∧ Below w.heap.size w w' := by
 have HR0 := Aside0.mk hr0
 have HC0 := Aside0.mk hc0
 clear hr0 hc0
 have HB := Aside0.mk (Below.refl w.heap.size w)
 have H : ((spec_l6Open.f l0).bind fun bt234 => ((spec_l92Word.f k bt234.1 bt234.2 5).bind fun bt237 => (some bt237.1))) = some r := h
 clear h
 replace H := Option.bind_eq_some_iff.mp H
 obtain ⟨⟨t234, t235⟩, A20, H⟩ := H
 replace H : ((spec_l92Word.f k t234 t235 5).bind fun bt237 => (some bt237.1)) = some r := H
 have A2 := Aside0.mk A20
 clear A20
 replace H := Option.bind_eq_some_iff.mp H
 obtain ⟨⟨t237, t238⟩, A30, H⟩ := H
 replace H : (some t237) = some r := H
 have A3 := Aside0.mk A30
 clear A30
 obtain rfl := Option.some.inj H
 go_enter Try.func15, Try.ntmps15
 go_wp2_with (first | ((with_reducible refine gate_callee (f := 26) rfl ?_); refine goesL_ (some 4) rfl rfl Try.func26 (by kernel_rfl) rfl #[.slice A0 l0.length c0] rfl (by (try simp only [List.map_toArray, List.map_cons, List.map_nil]); first | done | rfl | (simp only [List.length_drop, List.length_take]; rfl)) ?_; (with_reducible refine (spec_l6Open.calls _ _ l0 t234 t235 w _ ?side1 ?side2 ?side3 A2.out).mono ?_); (case side1 => repeat (first | (with_reducible first | exact HB.out | apply below_alloc | apply pw_below_drewN | apply below_drew1) | exact HB.out)); (case side2 => exact HR0.out); (case side3 => exact HC0.out); rintro e w4 ⟨g236, rfl, hi, hb, hb2⟩; refine ⟨_, rfl, ?_⟩; have n0_ := Aside0.mk (hb); have n1_ := Aside0.mk (hi); clear HB; have HB := n0_; have HI236 := n1_; clear n0_ n1_; (try clear hb); (try clear hb2); (try clear hk); (try clear hi)) | ((with_reducible refine gate_callee (f := 25) rfl ?_); refine goesL_ (some 5) rfl rfl Try.func25 (by kernel_rfl) rfl #[.pointer (some ⟨g236, 0, none⟩), .int .i64 5] rfl (by (try simp only [List.map_toArray, List.map_cons, List.map_nil]); first | done | rfl | (simp only [List.length_drop, List.length_take]; rfl)) ?_; (with_reducible refine (spec_l92Word.calls k g236 t234 t235 5 t237 t238 w _ ?side1 ?side2 A3.out).mono ?_); (case side1 => repeat (first | (with_reducible first | exact HI236.out | apply IsS58.alloc | apply IsS58.drewN | apply IsS58.drew | apply IsS58.set_1) | exact HI236.out)); (case side2 => repeat (first | (with_reducible first | exact HB.out | apply below_alloc | apply pw_below_drewN | apply below_drew1 | refine below_set ?_ (IsS58.ge HI236.out)) | exact HB.out)); rintro e w5 ⟨rfl, hi, hb, hk⟩; refine ⟨_, rfl, ?_⟩; have n0_ := Aside0.mk (hb); have n1_ := Aside0.mk (hi); clear HB; clear HI236; have HB := n0_; have HI236 := n1_; clear n0_ n1_; (try clear hb); (try clear hb2); (try clear hk); (try clear hi)))
 go_ret
 exact ⟨by first | rfl | (simp [errW_none, errW_some] <;> rfl) | (simp [*, errW_none, errW_some] <;> rfl), by repeat (first | (with_reducible first | exact HB.out | apply below_alloc | apply pw_below_drewN | apply below_drew1 | refine below_set ?_ (IsS58.ge HI236.out)) | exact HB.out)⟩

/-! ### spec_WordValid: function 34 -/
mutual
def spec_WordValid.l0 : Nat → ByteArray → Int → Option (Bool)
  | 0, _, _ => none
  | k + 1, x0, x3 => if x3 < (x0.size : Int) then (spec_WordValid.l1 k x0 x3 0 0) else (some (decide ((x0.size : Int) > 0)))
def spec_WordValid.l1 : Nat → ByteArray → Int → Int → Int → Option (Bool)
  | 0, _, _, _, _ => none
  | k + 1, x0, x3, x4, x5 => if x5 < (x0.size : Int) then (if 0 ≤ x5 then ((spec_l8Letter.f k (bt x0 x5)).bind fun t240 => (if 0 ≤ x3 then (if x3 < (x0.size : Int) then ((spec_l8Letter.f k (bt x0 x3)).bind fun t241 => (if t240 = t241 then (spec_WordValid.l1 k x0 x3 (wrap64 (x4 + 1)) (wrap64 (x5 + 1))) else (spec_WordValid.l1 k x0 x3 x4 (wrap64 (x5 + 1))))) else (none)) else (none))) else (none)) else (if 0 ≤ x3 then (if x3 < (x0.size : Int) then ((spec_l8Letter.f k (bt x0 x3)).bind fun t239 => (if t239 < 0 then (some false) else (if x4 = 2 then (spec_WordValid.l0 k x0 (wrap64 (x3 + 1))) else (some false)))) else (none)) else (none))
end
def spec_WordValid.f (k : Nat) (a0 : ByteArray) : Option (Bool) := spec_WordValid.l0 k a0 0
set_option maxHeartbeats 8000000 in
set_option maxRecDepth 100000 in
theorem spec_WordValid.calls (k : Nat) (a0 : ByteArray) (r : Bool) (w : World) (h : spec_WordValid.f k a0 = some r) :
    Calls Try.prog 34 #[.string a0] w fun e w' => e = .returned (.bool r) ∧ Drawn0 w w' := by
 have H : (spec_WordValid.l0 k a0 0) = some r := h
 clear h
 have H' := Aside0.mk H
 clear H
 go_enter Try.func34, Try.ntmps34
 go_wp2
 repeat (go_quiet (fail); try go_wp2)
 go_loopg [3] k (fun kq v3 w' => ∃ (x3_1 : Int), v3 = .int .i64 x3_1 ∧ Aside0 (spec_WordValid.l0 kq a0 x3_1 = some r) ∧ Aside0 (kq ≤ k) ∧ Drawn0 w w')
 case atStart => exact ⟨(0), (by first | rfl | (simp; done) | (simp [*]; done)), H', ⟨Nat.le_refl _⟩, by repeat (first | exact Drawn0.refl _ | apply Drawn0.step)⟩
 case round =>
  clear H'
  obtain ⟨x3_1, rfl, HA, HK1, ⟨m1, rfl⟩⟩ := hrel
  cases gk with
  | zero => exact absurd HA.out (by simp [spec_WordValid.l0])
  | succ k1 =>
   have H := HA.out
   clear HA
   simp only [spec_WordValid.l0] at H
   by_cases c2 : x3_1 < (a0.size : Int)
   ·rw [if_pos c2] at H
    have c2b0 : decide (x3_1 < (a0.size : Int)) = true := decide_eq_true c2
    clear c2
    have H' := Aside0.mk H
    clear H
    go_wp2
    repeat (go_quiet (fail); try go_wp2)
    go_loopg [4, 5] k1 (fun kq v4 v5 w' => ∃ (x4_2 : Int) (x5_2 : Int), v4 = .int .i64 x4_2 ∧ v5 = .int .i64 x5_2 ∧ Aside0 (spec_WordValid.l1 kq a0 x3_1 x4_2 x5_2 = some r) ∧ Aside0 (kq ≤ k1) ∧ Drawn0 w w')
    case atStart => exact ⟨(0), (0), (by first | rfl | (simp; done) | (simp [*]; done)), (by first | rfl | (simp; done) | (simp [*]; done)), H', ⟨Nat.le_refl _⟩, by repeat (first | exact Drawn0.refl _ | apply Drawn0.step)⟩
    case round =>
     clear H'
     try clear c2
     try clear c2b0
     try clear p2
     obtain ⟨x4_2, x5_2, rfl, rfl, HA, HK2, ⟨m2, rfl⟩⟩ := hrel
     cases gk with
     | zero => exact absurd HA.out (by simp [spec_WordValid.l1])
     | succ k2 =>
      have H := HA.out
      clear HA
      simp only [spec_WordValid.l1] at H
      by_cases c3 : x5_2 < (a0.size : Int)
      ·rw [if_pos c3] at H
       have c3b0 : decide (x5_2 < (a0.size : Int)) = true := decide_eq_true c3
       clear c3
       by_cases c4 : 0 ≤ x5_2
       ·rw [if_pos c4] at H
        have c4b0 : decide (0 ≤ x5_2) = true := decide_eq_true c4
        clear c4
        replace H := Option.bind_eq_some_iff.mp H
        obtain ⟨t240, A60, H⟩ := H
        replace H : (if 0 ≤ x3_1 then (if x3_1 < (a0.size : Int) then ((spec_l8Letter.f k2 (bt a0 x3_1)).bind fun t241 => (if t240 = t241 then (spec_WordValid.l1 k2 a0 x3_1 (wrap64 (x4_2 + 1)) (wrap64 (x5_2 + 1))) else (spec_WordValid.l1 k2 a0 x3_1 x4_2 (wrap64 (x5_2 + 1))))) else (none)) else (none)) = some r := H
        have A6 := Aside0.mk A60
        clear A60
        by_cases c7 : 0 ≤ x3_1
        ·rw [if_pos c7] at H
         have c7b0 : decide (0 ≤ x3_1) = true := decide_eq_true c7
         clear c7
         by_cases c8 : x3_1 < (a0.size : Int)
         ·rw [if_pos c8] at H
          have c8b0 : decide (x3_1 < (a0.size : Int)) = true := decide_eq_true c8
          clear c8
          replace H := Option.bind_eq_some_iff.mp H
          obtain ⟨t241, A100, H⟩ := H
          replace H : (if t240 = t241 then (spec_WordValid.l1 k2 a0 x3_1 (wrap64 (x4_2 + 1)) (wrap64 (x5_2 + 1))) else (spec_WordValid.l1 k2 a0 x3_1 x4_2 (wrap64 (x5_2 + 1)))) = some r := H
          have A10 := Aside0.mk A100
          clear A100
          by_cases c11 : t240 = t241
          ·rw [if_pos c11] at H
           have c11b0 : (t240 == t241) = true := beq_iff_eq.mpr c11
           have c11b1 : (t240 != t241) = false := bne_eq_false_iff_eq.mpr c11
           clear c11
           have H' := Aside0.mk H
           clear H
           have p5 : 0 ≤ (x5_2 : Int) := of_decide_eq_true (by first | (with_reducible assumption) | assumption)
           have q5 : x5_2 < (a0.size : Int) := of_decide_eq_true (by first | (with_reducible assumption) | assumption)
           have hx5 := bt_at a0 x5_2
           replace p5 := eq_true p5
           replace q5 := eq_true q5
           go_wp2_with (first | (go_at_call 46; (with_reducible refine (spec_l8Letter.calls k2 (bt a0 x5_2) t240 _ A6.out).mono ?_); rintro e w' ⟨rfl, ⟨nd, rfl⟩⟩; (try first | exact ⟨rfl, _, World.drewN_drewN _ _ _⟩ | exact ⟨rfl, _, Eq.trans (World.drewN_drewN _ _ _) (congrArg (World.drewN _) (Nat.add_assoc _ _ _))⟩); have p9 : 0 ≤ (x3_1 : Int) := of_decide_eq_true (by first | (with_reducible assumption) | assumption); have q9 : x3_1 < (a0.size : Int) := of_decide_eq_true (by first | (with_reducible assumption) | assumption); have hx9 := bt_at a0 x3_1; replace p9 := eq_true p9; replace q9 := eq_true q9) | (go_at_call 46; (with_reducible refine (spec_l8Letter.calls k2 (bt a0 x3_1) t241 _ A10.out).mono ?_); rintro e w' ⟨rfl, ⟨nd, rfl⟩⟩; (try first | exact ⟨rfl, _, World.drewN_drewN _ _ _⟩ | exact ⟨rfl, _, Eq.trans (World.drewN_drewN _ _ _) (congrArg (World.drewN _) (Nat.add_assoc _ _ _))⟩)))
           repeat (go_quiet (first | (go_at_call 46; (with_reducible refine (spec_l8Letter.calls k2 (bt a0 x5_2) t240 _ A6.out).mono ?_); rintro e w' ⟨rfl, ⟨nd, rfl⟩⟩; (try first | exact ⟨rfl, _, World.drewN_drewN _ _ _⟩ | exact ⟨rfl, _, Eq.trans (World.drewN_drewN _ _ _) (congrArg (World.drewN _) (Nat.add_assoc _ _ _))⟩); have p9 : 0 ≤ (x3_1 : Int) := of_decide_eq_true (by first | (with_reducible assumption) | assumption); have q9 : x3_1 < (a0.size : Int) := of_decide_eq_true (by first | (with_reducible assumption) | assumption); have hx9 := bt_at a0 x3_1; replace p9 := eq_true p9; replace q9 := eq_true q9) | (go_at_call 46; (with_reducible refine (spec_l8Letter.calls k2 (bt a0 x3_1) t241 _ A10.out).mono ?_); rintro e w' ⟨rfl, ⟨nd, rfl⟩⟩; (try first | exact ⟨rfl, _, World.drewN_drewN _ _ _⟩ | exact ⟨rfl, _, Eq.trans (World.drewN_drewN _ _ _) (congrArg (World.drewN _) (Nat.add_assoc _ _ _))⟩))); try go_wp2_with (first | (go_at_call 46; (with_reducible refine (spec_l8Letter.calls k2 (bt a0 x5_2) t240 _ A6.out).mono ?_); rintro e w' ⟨rfl, ⟨nd, rfl⟩⟩; (try first | exact ⟨rfl, _, World.drewN_drewN _ _ _⟩ | exact ⟨rfl, _, Eq.trans (World.drewN_drewN _ _ _) (congrArg (World.drewN _) (Nat.add_assoc _ _ _))⟩); have p9 : 0 ≤ (x3_1 : Int) := of_decide_eq_true (by first | (with_reducible assumption) | assumption); have q9 : x3_1 < (a0.size : Int) := of_decide_eq_true (by first | (with_reducible assumption) | assumption); have hx9 := bt_at a0 x3_1; replace p9 := eq_true p9; replace q9 := eq_true q9) | (go_at_call 46; (with_reducible refine (spec_l8Letter.calls k2 (bt a0 x3_1) t241 _ A10.out).mono ?_); rintro e w' ⟨rfl, ⟨nd, rfl⟩⟩; (try first | exact ⟨rfl, _, World.drewN_drewN _ _ _⟩ | exact ⟨rfl, _, Eq.trans (World.drewN_drewN _ _ _) (congrArg (World.drewN _) (Nat.add_assoc _ _ _))⟩))))
           go_roundg k2
           case measure => have := HK1.out; have := HK2.out; omega
           case rel => exact ⟨(wrap64 (x4_2 + 1)), (wrap64 (x5_2 + 1)), (by first | rfl | (simp; done) | (simp [*]; done)), (by first | rfl | (simp; done) | (simp [*]; done)), H', ⟨by have := HK1.out; have := HK2.out; omega⟩, by repeat (first | exact Drawn0.refl _ | apply Drawn0.step)⟩
          ·rw [if_neg c11] at H
           have c11b0 : (t240 == t241) = false := beq_eq_false_iff_ne.mpr c11
           have c11b1 : (t240 != t241) = true := bne_iff_ne.mpr c11
           have H' := Aside0.mk H
           clear H
           have p5 : 0 ≤ (x5_2 : Int) := of_decide_eq_true (by first | (with_reducible assumption) | assumption)
           have q5 : x5_2 < (a0.size : Int) := of_decide_eq_true (by first | (with_reducible assumption) | assumption)
           have hx5 := bt_at a0 x5_2
           replace p5 := eq_true p5
           replace q5 := eq_true q5
           go_wp2_with (first | (go_at_call 46; (with_reducible refine (spec_l8Letter.calls k2 (bt a0 x5_2) t240 _ A6.out).mono ?_); rintro e w' ⟨rfl, ⟨nd, rfl⟩⟩; (try first | exact ⟨rfl, _, World.drewN_drewN _ _ _⟩ | exact ⟨rfl, _, Eq.trans (World.drewN_drewN _ _ _) (congrArg (World.drewN _) (Nat.add_assoc _ _ _))⟩); have p9 : 0 ≤ (x3_1 : Int) := of_decide_eq_true (by first | (with_reducible assumption) | assumption); have q9 : x3_1 < (a0.size : Int) := of_decide_eq_true (by first | (with_reducible assumption) | assumption); have hx9 := bt_at a0 x3_1; replace p9 := eq_true p9; replace q9 := eq_true q9) | (go_at_call 46; (with_reducible refine (spec_l8Letter.calls k2 (bt a0 x3_1) t241 _ A10.out).mono ?_); rintro e w' ⟨rfl, ⟨nd, rfl⟩⟩; (try first | exact ⟨rfl, _, World.drewN_drewN _ _ _⟩ | exact ⟨rfl, _, Eq.trans (World.drewN_drewN _ _ _) (congrArg (World.drewN _) (Nat.add_assoc _ _ _))⟩)))
           repeat (go_quiet (first | (go_at_call 46; (with_reducible refine (spec_l8Letter.calls k2 (bt a0 x5_2) t240 _ A6.out).mono ?_); rintro e w' ⟨rfl, ⟨nd, rfl⟩⟩; (try first | exact ⟨rfl, _, World.drewN_drewN _ _ _⟩ | exact ⟨rfl, _, Eq.trans (World.drewN_drewN _ _ _) (congrArg (World.drewN _) (Nat.add_assoc _ _ _))⟩); have p9 : 0 ≤ (x3_1 : Int) := of_decide_eq_true (by first | (with_reducible assumption) | assumption); have q9 : x3_1 < (a0.size : Int) := of_decide_eq_true (by first | (with_reducible assumption) | assumption); have hx9 := bt_at a0 x3_1; replace p9 := eq_true p9; replace q9 := eq_true q9) | (go_at_call 46; (with_reducible refine (spec_l8Letter.calls k2 (bt a0 x3_1) t241 _ A10.out).mono ?_); rintro e w' ⟨rfl, ⟨nd, rfl⟩⟩; (try first | exact ⟨rfl, _, World.drewN_drewN _ _ _⟩ | exact ⟨rfl, _, Eq.trans (World.drewN_drewN _ _ _) (congrArg (World.drewN _) (Nat.add_assoc _ _ _))⟩))); try go_wp2_with (first | (go_at_call 46; (with_reducible refine (spec_l8Letter.calls k2 (bt a0 x5_2) t240 _ A6.out).mono ?_); rintro e w' ⟨rfl, ⟨nd, rfl⟩⟩; (try first | exact ⟨rfl, _, World.drewN_drewN _ _ _⟩ | exact ⟨rfl, _, Eq.trans (World.drewN_drewN _ _ _) (congrArg (World.drewN _) (Nat.add_assoc _ _ _))⟩); have p9 : 0 ≤ (x3_1 : Int) := of_decide_eq_true (by first | (with_reducible assumption) | assumption); have q9 : x3_1 < (a0.size : Int) := of_decide_eq_true (by first | (with_reducible assumption) | assumption); have hx9 := bt_at a0 x3_1; replace p9 := eq_true p9; replace q9 := eq_true q9) | (go_at_call 46; (with_reducible refine (spec_l8Letter.calls k2 (bt a0 x3_1) t241 _ A10.out).mono ?_); rintro e w' ⟨rfl, ⟨nd, rfl⟩⟩; (try first | exact ⟨rfl, _, World.drewN_drewN _ _ _⟩ | exact ⟨rfl, _, Eq.trans (World.drewN_drewN _ _ _) (congrArg (World.drewN _) (Nat.add_assoc _ _ _))⟩))))
           go_roundg k2
           case measure => have := HK1.out; have := HK2.out; omega
           case rel => exact ⟨(x4_2), (wrap64 (x5_2 + 1)), (by first | rfl | (simp; done) | (simp [*]; done)), (by first | rfl | (simp; done) | (simp [*]; done)), H', ⟨by have := HK1.out; have := HK2.out; omega⟩, by repeat (first | exact Drawn0.refl _ | apply Drawn0.step)⟩
         ·rw [if_neg c8] at H
          exact absurd H (by simp)
        ·rw [if_neg c7] at H
         exact absurd H (by simp)
       ·rw [if_neg c4] at H
        exact absurd H (by simp)
      ·rw [if_neg c3] at H
       have c3b0 : decide (x5_2 < (a0.size : Int)) = false := decide_eq_false c3
       clear c3
       by_cases c12 : 0 ≤ x3_1
       ·rw [if_pos c12] at H
        have c12b0 : decide (0 ≤ x3_1) = true := decide_eq_true c12
        clear c12
        by_cases c13 : x3_1 < (a0.size : Int)
        ·rw [if_pos c13] at H
         have c13b0 : decide (x3_1 < (a0.size : Int)) = true := decide_eq_true c13
         clear c13
         replace H := Option.bind_eq_some_iff.mp H
         obtain ⟨t239, A150, H⟩ := H
         replace H : (if t239 < 0 then (some false) else (if x4_2 = 2 then (spec_WordValid.l0 k2 a0 (wrap64 (x3_1 + 1))) else (some false))) = some r := H
         have A15 := Aside0.mk A150
         clear A150
         by_cases c16 : t239 < 0
         ·rw [if_pos c16] at H
          have c16b0 : decide (t239 < 0) = true := decide_eq_true c16
          clear c16
          obtain rfl := Option.some.inj H
          have p14 : 0 ≤ (x3_1 : Int) := of_decide_eq_true (by first | (with_reducible assumption) | assumption)
          have q14 : x3_1 < (a0.size : Int) := of_decide_eq_true (by first | (with_reducible assumption) | assumption)
          have hx14 := bt_at a0 x3_1
          replace p14 := eq_true p14
          replace q14 := eq_true q14
          go_wp2_with (first | (go_at_call 46; (with_reducible refine (spec_l8Letter.calls k2 (bt a0 x3_1) t239 _ A15.out).mono ?_); rintro e w' ⟨rfl, ⟨nd, rfl⟩⟩; (try first | exact ⟨rfl, _, World.drewN_drewN _ _ _⟩ | exact ⟨rfl, _, Eq.trans (World.drewN_drewN _ _ _) (congrArg (World.drewN _) (Nat.add_assoc _ _ _))⟩)))
          repeat (go_quiet (first | (go_at_call 46; (with_reducible refine (spec_l8Letter.calls k2 (bt a0 x3_1) t239 _ A15.out).mono ?_); rintro e w' ⟨rfl, ⟨nd, rfl⟩⟩; (try first | exact ⟨rfl, _, World.drewN_drewN _ _ _⟩ | exact ⟨rfl, _, Eq.trans (World.drewN_drewN _ _ _) (congrArg (World.drewN _) (Nat.add_assoc _ _ _))⟩))); try go_wp2_with (first | (go_at_call 46; (with_reducible refine (spec_l8Letter.calls k2 (bt a0 x3_1) t239 _ A15.out).mono ?_); rintro e w' ⟨rfl, ⟨nd, rfl⟩⟩; (try first | exact ⟨rfl, _, World.drewN_drewN _ _ _⟩ | exact ⟨rfl, _, Eq.trans (World.drewN_drewN _ _ _) (congrArg (World.drewN _) (Nat.add_assoc _ _ _))⟩))))
          go_ret
          exact ⟨by first | rfl | (simp; done) | (simp [*]; done), by repeat (first | exact Drawn0.refl _ | apply Drawn0.step)⟩
         ·rw [if_neg c16] at H
          have c16b0 : decide (t239 < 0) = false := decide_eq_false c16
          clear c16
          by_cases c17 : x4_2 = 2
          ·rw [if_pos c17] at H
           have c17b0 : (x4_2 == 2) = true := beq_iff_eq.mpr c17
           have c17b1 : (x4_2 != 2) = false := bne_eq_false_iff_eq.mpr c17
           clear c17
           have H' := Aside0.mk H
           clear H
           have p14 : 0 ≤ (x3_1 : Int) := of_decide_eq_true (by first | (with_reducible assumption) | assumption)
           have q14 : x3_1 < (a0.size : Int) := of_decide_eq_true (by first | (with_reducible assumption) | assumption)
           have hx14 := bt_at a0 x3_1
           replace p14 := eq_true p14
           replace q14 := eq_true q14
           go_wp2_with (first | (go_at_call 46; (with_reducible refine (spec_l8Letter.calls k2 (bt a0 x3_1) t239 _ A15.out).mono ?_); rintro e w' ⟨rfl, ⟨nd, rfl⟩⟩; (try first | exact ⟨rfl, _, World.drewN_drewN _ _ _⟩ | exact ⟨rfl, _, Eq.trans (World.drewN_drewN _ _ _) (congrArg (World.drewN _) (Nat.add_assoc _ _ _))⟩)))
           repeat (go_quiet (first | (go_at_call 46; (with_reducible refine (spec_l8Letter.calls k2 (bt a0 x3_1) t239 _ A15.out).mono ?_); rintro e w' ⟨rfl, ⟨nd, rfl⟩⟩; (try first | exact ⟨rfl, _, World.drewN_drewN _ _ _⟩ | exact ⟨rfl, _, Eq.trans (World.drewN_drewN _ _ _) (congrArg (World.drewN _) (Nat.add_assoc _ _ _))⟩))); try go_wp2_with (first | (go_at_call 46; (with_reducible refine (spec_l8Letter.calls k2 (bt a0 x3_1) t239 _ A15.out).mono ?_); rintro e w' ⟨rfl, ⟨nd, rfl⟩⟩; (try first | exact ⟨rfl, _, World.drewN_drewN _ _ _⟩ | exact ⟨rfl, _, Eq.trans (World.drewN_drewN _ _ _) (congrArg (World.drewN _) (Nat.add_assoc _ _ _))⟩))))
           go_roundg k2
           case measure => have := HK1.out; have := HK2.out; omega
           case rel => exact ⟨(wrap64 (x3_1 + 1)), (by first | rfl | (simp; done) | (simp [*]; done)), H', ⟨by have := HK1.out; have := HK2.out; omega⟩, by repeat (first | exact Drawn0.refl _ | apply Drawn0.step)⟩
          ·rw [if_neg c17] at H
           have c17b0 : (x4_2 == 2) = false := beq_eq_false_iff_ne.mpr c17
           have c17b1 : (x4_2 != 2) = true := bne_iff_ne.mpr c17
           obtain rfl := Option.some.inj H
           have p14 : 0 ≤ (x3_1 : Int) := of_decide_eq_true (by first | (with_reducible assumption) | assumption)
           have q14 : x3_1 < (a0.size : Int) := of_decide_eq_true (by first | (with_reducible assumption) | assumption)
           have hx14 := bt_at a0 x3_1
           replace p14 := eq_true p14
           replace q14 := eq_true q14
           go_wp2_with (first | (go_at_call 46; (with_reducible refine (spec_l8Letter.calls k2 (bt a0 x3_1) t239 _ A15.out).mono ?_); rintro e w' ⟨rfl, ⟨nd, rfl⟩⟩; (try first | exact ⟨rfl, _, World.drewN_drewN _ _ _⟩ | exact ⟨rfl, _, Eq.trans (World.drewN_drewN _ _ _) (congrArg (World.drewN _) (Nat.add_assoc _ _ _))⟩)))
           repeat (go_quiet (first | (go_at_call 46; (with_reducible refine (spec_l8Letter.calls k2 (bt a0 x3_1) t239 _ A15.out).mono ?_); rintro e w' ⟨rfl, ⟨nd, rfl⟩⟩; (try first | exact ⟨rfl, _, World.drewN_drewN _ _ _⟩ | exact ⟨rfl, _, Eq.trans (World.drewN_drewN _ _ _) (congrArg (World.drewN _) (Nat.add_assoc _ _ _))⟩))); try go_wp2_with (first | (go_at_call 46; (with_reducible refine (spec_l8Letter.calls k2 (bt a0 x3_1) t239 _ A15.out).mono ?_); rintro e w' ⟨rfl, ⟨nd, rfl⟩⟩; (try first | exact ⟨rfl, _, World.drewN_drewN _ _ _⟩ | exact ⟨rfl, _, Eq.trans (World.drewN_drewN _ _ _) (congrArg (World.drewN _) (Nat.add_assoc _ _ _))⟩))))
           go_ret
           exact ⟨by first | rfl | (simp; done) | (simp [*]; done), by repeat (first | exact Drawn0.refl _ | apply Drawn0.step)⟩
        ·rw [if_neg c13] at H
         exact absurd H (by simp)
       ·rw [if_neg c12] at H
        exact absurd H (by simp)
   ·rw [if_neg c2] at H
    have c2b0 : decide (x3_1 < (a0.size : Int)) = false := decide_eq_false c2
    clear c2
    obtain rfl := Option.some.inj H
    go_wp2
    repeat (go_quiet (fail); try go_wp2)
    go_ret
    exact ⟨by first | rfl | (simp; done) | (simp [*]; done), by repeat (first | exact Drawn0.refl _ | apply Drawn0.step)⟩

/-! ### spec_l8Partner: function 29 -/
def spec_l8Partner.l0 : Nat → ByteArray → Int → Int → Option (Int)
  | 0, _, _, _ => none
  | k + 1, x0, x1, x5 => if x5 < (x0.size : Int) then (if x5 = x1 then (spec_l8Partner.l0 k x0 x1 (wrap64 (x5 + 1))) else (if 0 ≤ x5 then ((spec_l8Letter.f k (bt x0 x5)).bind fun t242 => (if 0 ≤ x1 then (if x1 < (x0.size : Int) then ((spec_l8Letter.f k (bt x0 x1)).bind fun t243 => (if t242 = t243 then (some x5) else (spec_l8Partner.l0 k x0 x1 (wrap64 (x5 + 1))))) else (none)) else (none))) else (none))) else (some x1)
def spec_l8Partner.f (k : Nat) (a0 : ByteArray) (a1 : Int) : Option (Int) := spec_l8Partner.l0 k a0 a1 0
set_option maxHeartbeats 8000000 in
set_option maxRecDepth 100000 in
theorem spec_l8Partner.calls (k : Nat) (a0 : ByteArray) (a1 : Int) (r : Int) (w : World) (h : spec_l8Partner.f k a0 a1 = some r) :
    Calls Try.prog 29 #[.string a0, .int .i64 a1] w fun e w' => e = .returned (.int .i64 r) ∧ Drawn0 w w' := by
 have H : (spec_l8Partner.l0 k a0 a1 0) = some r := h
 clear h
 have H' := Aside0.mk H
 clear H
 go_enter Try.func29, Try.ntmps29
 go_wp2
 repeat (go_quiet (fail); try go_wp2)
 go_loopg [5] k (fun kq v5 w' => ∃ (x5_1 : Int), v5 = .int .i64 x5_1 ∧ Aside0 (spec_l8Partner.l0 kq a0 a1 x5_1 = some r) ∧ Aside0 (kq ≤ k) ∧ Drawn0 w w')
 case atStart => exact ⟨(0), (by first | rfl | (simp; done) | (simp [*]; done)), H', ⟨Nat.le_refl _⟩, by repeat (first | exact Drawn0.refl _ | apply Drawn0.step)⟩
 case round =>
  clear H'
  try clear c2
  try clear p2
  obtain ⟨x5_1, rfl, HA, HK1, ⟨m1, rfl⟩⟩ := hrel
  cases gk with
  | zero => exact absurd HA.out (by simp [spec_l8Partner.l0])
  | succ k1 =>
   have H := HA.out
   clear HA
   simp only [spec_l8Partner.l0] at H
   by_cases c3 : x5_1 < (a0.size : Int)
   ·rw [if_pos c3] at H
    have c3b0 : decide (x5_1 < (a0.size : Int)) = true := decide_eq_true c3
    clear c3
    by_cases c4 : x5_1 = a1
    ·rw [if_pos c4] at H
     have c4b0 : (x5_1 == a1) = true := beq_iff_eq.mpr c4
     have c4b1 : (x5_1 != a1) = false := bne_eq_false_iff_eq.mpr c4
     clear c4
     have H' := Aside0.mk H
     clear H
     go_wp2
     repeat (go_quiet (fail); try go_wp2)
     go_roundg k1
     case measure => have := HK1.out; omega
     case rel => exact ⟨(wrap64 (x5_1 + 1)), (by first | rfl | (simp; done) | (simp [*]; done)), H', ⟨by have := HK1.out; omega⟩, by repeat (first | exact Drawn0.refl _ | apply Drawn0.step)⟩
    ·rw [if_neg c4] at H
     have c4b0 : (x5_1 == a1) = false := beq_eq_false_iff_ne.mpr c4
     have c4b1 : (x5_1 != a1) = true := bne_iff_ne.mpr c4
     by_cases c5 : 0 ≤ x5_1
     ·rw [if_pos c5] at H
      have c5b0 : decide (0 ≤ x5_1) = true := decide_eq_true c5
      clear c5
      replace H := Option.bind_eq_some_iff.mp H
      obtain ⟨t242, A70, H⟩ := H
      replace H : (if 0 ≤ a1 then (if a1 < (a0.size : Int) then ((spec_l8Letter.f k1 (bt a0 a1)).bind fun t243 => (if t242 = t243 then (some x5_1) else (spec_l8Partner.l0 k1 a0 a1 (wrap64 (x5_1 + 1))))) else (none)) else (none)) = some r := H
      have A7 := Aside0.mk A70
      clear A70
      by_cases c8 : 0 ≤ a1
      ·rw [if_pos c8] at H
       have c8b0 : decide (0 ≤ a1) = true := decide_eq_true c8
       clear c8
       by_cases c9 : a1 < (a0.size : Int)
       ·rw [if_pos c9] at H
        have c9b0 : decide (a1 < (a0.size : Int)) = true := decide_eq_true c9
        clear c9
        replace H := Option.bind_eq_some_iff.mp H
        obtain ⟨t243, A110, H⟩ := H
        replace H : (if t242 = t243 then (some x5_1) else (spec_l8Partner.l0 k1 a0 a1 (wrap64 (x5_1 + 1)))) = some r := H
        have A11 := Aside0.mk A110
        clear A110
        by_cases c12 : t242 = t243
        ·rw [if_pos c12] at H
         have c12b0 : (t242 == t243) = true := beq_iff_eq.mpr c12
         have c12b1 : (t242 != t243) = false := bne_eq_false_iff_eq.mpr c12
         clear c12
         obtain rfl := Option.some.inj H
         have p6 : 0 ≤ (x5_1 : Int) := of_decide_eq_true (by first | (with_reducible assumption) | assumption)
         have q6 : x5_1 < (a0.size : Int) := of_decide_eq_true (by first | (with_reducible assumption) | assumption)
         have hx6 := bt_at a0 x5_1
         replace p6 := eq_true p6
         replace q6 := eq_true q6
         go_wp2_with (first | (go_at_call 46; (with_reducible refine (spec_l8Letter.calls k1 (bt a0 x5_1) t242 _ A7.out).mono ?_); rintro e w' ⟨rfl, ⟨nd, rfl⟩⟩; (try first | exact ⟨rfl, _, World.drewN_drewN _ _ _⟩ | exact ⟨rfl, _, Eq.trans (World.drewN_drewN _ _ _) (congrArg (World.drewN _) (Nat.add_assoc _ _ _))⟩); have p10 : 0 ≤ (a1 : Int) := of_decide_eq_true (by first | (with_reducible assumption) | assumption); have q10 : a1 < (a0.size : Int) := of_decide_eq_true (by first | (with_reducible assumption) | assumption); have hx10 := bt_at a0 a1; replace p10 := eq_true p10; replace q10 := eq_true q10) | (go_at_call 46; (with_reducible refine (spec_l8Letter.calls k1 (bt a0 a1) t243 _ A11.out).mono ?_); rintro e w' ⟨rfl, ⟨nd, rfl⟩⟩; (try first | exact ⟨rfl, _, World.drewN_drewN _ _ _⟩ | exact ⟨rfl, _, Eq.trans (World.drewN_drewN _ _ _) (congrArg (World.drewN _) (Nat.add_assoc _ _ _))⟩)))
         repeat (go_quiet (first | (go_at_call 46; (with_reducible refine (spec_l8Letter.calls k1 (bt a0 x5_1) t242 _ A7.out).mono ?_); rintro e w' ⟨rfl, ⟨nd, rfl⟩⟩; (try first | exact ⟨rfl, _, World.drewN_drewN _ _ _⟩ | exact ⟨rfl, _, Eq.trans (World.drewN_drewN _ _ _) (congrArg (World.drewN _) (Nat.add_assoc _ _ _))⟩); have p10 : 0 ≤ (a1 : Int) := of_decide_eq_true (by first | (with_reducible assumption) | assumption); have q10 : a1 < (a0.size : Int) := of_decide_eq_true (by first | (with_reducible assumption) | assumption); have hx10 := bt_at a0 a1; replace p10 := eq_true p10; replace q10 := eq_true q10) | (go_at_call 46; (with_reducible refine (spec_l8Letter.calls k1 (bt a0 a1) t243 _ A11.out).mono ?_); rintro e w' ⟨rfl, ⟨nd, rfl⟩⟩; (try first | exact ⟨rfl, _, World.drewN_drewN _ _ _⟩ | exact ⟨rfl, _, Eq.trans (World.drewN_drewN _ _ _) (congrArg (World.drewN _) (Nat.add_assoc _ _ _))⟩))); try go_wp2_with (first | (go_at_call 46; (with_reducible refine (spec_l8Letter.calls k1 (bt a0 x5_1) t242 _ A7.out).mono ?_); rintro e w' ⟨rfl, ⟨nd, rfl⟩⟩; (try first | exact ⟨rfl, _, World.drewN_drewN _ _ _⟩ | exact ⟨rfl, _, Eq.trans (World.drewN_drewN _ _ _) (congrArg (World.drewN _) (Nat.add_assoc _ _ _))⟩); have p10 : 0 ≤ (a1 : Int) := of_decide_eq_true (by first | (with_reducible assumption) | assumption); have q10 : a1 < (a0.size : Int) := of_decide_eq_true (by first | (with_reducible assumption) | assumption); have hx10 := bt_at a0 a1; replace p10 := eq_true p10; replace q10 := eq_true q10) | (go_at_call 46; (with_reducible refine (spec_l8Letter.calls k1 (bt a0 a1) t243 _ A11.out).mono ?_); rintro e w' ⟨rfl, ⟨nd, rfl⟩⟩; (try first | exact ⟨rfl, _, World.drewN_drewN _ _ _⟩ | exact ⟨rfl, _, Eq.trans (World.drewN_drewN _ _ _) (congrArg (World.drewN _) (Nat.add_assoc _ _ _))⟩))))
         go_ret
         exact ⟨by first | rfl | (simp; done) | (simp [*]; done), by repeat (first | exact Drawn0.refl _ | apply Drawn0.step)⟩
        ·rw [if_neg c12] at H
         have c12b0 : (t242 == t243) = false := beq_eq_false_iff_ne.mpr c12
         have c12b1 : (t242 != t243) = true := bne_iff_ne.mpr c12
         have H' := Aside0.mk H
         clear H
         have p6 : 0 ≤ (x5_1 : Int) := of_decide_eq_true (by first | (with_reducible assumption) | assumption)
         have q6 : x5_1 < (a0.size : Int) := of_decide_eq_true (by first | (with_reducible assumption) | assumption)
         have hx6 := bt_at a0 x5_1
         replace p6 := eq_true p6
         replace q6 := eq_true q6
         go_wp2_with (first | (go_at_call 46; (with_reducible refine (spec_l8Letter.calls k1 (bt a0 x5_1) t242 _ A7.out).mono ?_); rintro e w' ⟨rfl, ⟨nd, rfl⟩⟩; (try first | exact ⟨rfl, _, World.drewN_drewN _ _ _⟩ | exact ⟨rfl, _, Eq.trans (World.drewN_drewN _ _ _) (congrArg (World.drewN _) (Nat.add_assoc _ _ _))⟩); have p10 : 0 ≤ (a1 : Int) := of_decide_eq_true (by first | (with_reducible assumption) | assumption); have q10 : a1 < (a0.size : Int) := of_decide_eq_true (by first | (with_reducible assumption) | assumption); have hx10 := bt_at a0 a1; replace p10 := eq_true p10; replace q10 := eq_true q10) | (go_at_call 46; (with_reducible refine (spec_l8Letter.calls k1 (bt a0 a1) t243 _ A11.out).mono ?_); rintro e w' ⟨rfl, ⟨nd, rfl⟩⟩; (try first | exact ⟨rfl, _, World.drewN_drewN _ _ _⟩ | exact ⟨rfl, _, Eq.trans (World.drewN_drewN _ _ _) (congrArg (World.drewN _) (Nat.add_assoc _ _ _))⟩)))
         repeat (go_quiet (first | (go_at_call 46; (with_reducible refine (spec_l8Letter.calls k1 (bt a0 x5_1) t242 _ A7.out).mono ?_); rintro e w' ⟨rfl, ⟨nd, rfl⟩⟩; (try first | exact ⟨rfl, _, World.drewN_drewN _ _ _⟩ | exact ⟨rfl, _, Eq.trans (World.drewN_drewN _ _ _) (congrArg (World.drewN _) (Nat.add_assoc _ _ _))⟩); have p10 : 0 ≤ (a1 : Int) := of_decide_eq_true (by first | (with_reducible assumption) | assumption); have q10 : a1 < (a0.size : Int) := of_decide_eq_true (by first | (with_reducible assumption) | assumption); have hx10 := bt_at a0 a1; replace p10 := eq_true p10; replace q10 := eq_true q10) | (go_at_call 46; (with_reducible refine (spec_l8Letter.calls k1 (bt a0 a1) t243 _ A11.out).mono ?_); rintro e w' ⟨rfl, ⟨nd, rfl⟩⟩; (try first | exact ⟨rfl, _, World.drewN_drewN _ _ _⟩ | exact ⟨rfl, _, Eq.trans (World.drewN_drewN _ _ _) (congrArg (World.drewN _) (Nat.add_assoc _ _ _))⟩))); try go_wp2_with (first | (go_at_call 46; (with_reducible refine (spec_l8Letter.calls k1 (bt a0 x5_1) t242 _ A7.out).mono ?_); rintro e w' ⟨rfl, ⟨nd, rfl⟩⟩; (try first | exact ⟨rfl, _, World.drewN_drewN _ _ _⟩ | exact ⟨rfl, _, Eq.trans (World.drewN_drewN _ _ _) (congrArg (World.drewN _) (Nat.add_assoc _ _ _))⟩); have p10 : 0 ≤ (a1 : Int) := of_decide_eq_true (by first | (with_reducible assumption) | assumption); have q10 : a1 < (a0.size : Int) := of_decide_eq_true (by first | (with_reducible assumption) | assumption); have hx10 := bt_at a0 a1; replace p10 := eq_true p10; replace q10 := eq_true q10) | (go_at_call 46; (with_reducible refine (spec_l8Letter.calls k1 (bt a0 a1) t243 _ A11.out).mono ?_); rintro e w' ⟨rfl, ⟨nd, rfl⟩⟩; (try first | exact ⟨rfl, _, World.drewN_drewN _ _ _⟩ | exact ⟨rfl, _, Eq.trans (World.drewN_drewN _ _ _) (congrArg (World.drewN _) (Nat.add_assoc _ _ _))⟩))))
         go_roundg k1
         case measure => have := HK1.out; omega
         case rel => exact ⟨(wrap64 (x5_1 + 1)), (by first | rfl | (simp; done) | (simp [*]; done)), H', ⟨by have := HK1.out; omega⟩, by repeat (first | exact Drawn0.refl _ | apply Drawn0.step)⟩
       ·rw [if_neg c9] at H
        exact absurd H (by simp)
      ·rw [if_neg c8] at H
       exact absurd H (by simp)
     ·rw [if_neg c5] at H
      exact absurd H (by simp)
   ·rw [if_neg c3] at H
    have c3b0 : decide (x5_1 < (a0.size : Int)) = false := decide_eq_false c3
    clear c3
    obtain rfl := Option.some.inj H
    go_wp2
    repeat (go_quiet (fail); try go_wp2)
    go_ret
    exact ⟨by first | rfl | (simp; done) | (simp [*]; done), by repeat (first | exact Drawn0.refl _ | apply Drawn0.step)⟩

/-! ### spec_l1Same: function 54 -/
def spec_l1Same.l0 : Nat → Int → List Int → Int → Option (List Int)
  | 0, _, _, _ => none
  | k + 1, x0, x3, x4 => if x4 < x0 then (if x3.length < 17592186044416 then (spec_l1Same.l0 k x0 (x3 ++ [x4]) (wrap64 (x4 + 1))) else (none)) else (some x3)
def spec_l1Same.f (k : Nat) (a0 : Int) : Option (List Int) := spec_l1Same.l0 k a0 (([] : List Int)) 0
set_option maxHeartbeats 8000000 in
set_option maxRecDepth 100000 in
theorem spec_l1Same.calls (k : Nat) (a0 : Int) (r : List Int) (w : World) (h : spec_l1Same.f k a0 = some r) :
    Calls Try.prog 54 #[.int .i64 a0] w fun e w' => ∃ v0_ : Value, e = .returned (v0_) ∧ Kd.R (Kd.int .i64) 3 w' w.heap.size (fun _ => True) v0_ r ∧ Below w.heap.size w w' := by
 have HB := Aside0.mk (Below.refl w.heap.size w)
 have H : (spec_l1Same.l0 k a0 (([] : List Int)) 0) = some r := h
 clear h
 obtain ⟨y244, hy244⟩ : ∃ y_ : List Int, y_ = (([] : List Int)) := ⟨_, rfl⟩
 replace H : (spec_l1Same.l0 k a0 y244 0) = some r := by first | (rw [hy244]; with_reducible exact H) | (have H2_ := (Option.bind_some _ _).symm.trans H; rw [hy244]; with_reducible exact H2_) | (have H2_ := (Option.bind_some _ _).symm.trans H; with_reducible exact H2_) | with_reducible exact H | (rw [hy244]; exact H) | exact H
 have Ny244 := Aside0.mk hy244
 clear hy244
 have H' := Aside0.mk H
 clear H
 go_enter Try.func54, Try.ntmps54
 go_wp2_with (first | ((with_reducible refine gate_dst (N := 5) rfl ?_); refine Kd.R_lit (Kd.int .i64) _ 3 ?hg (N := 5) ?hd (xs := ([] : List Int)) (inner := []) (ok := fun _ => True) (okp := fun _ => True) ?hr ?hp (fun _ hk => hk) trivial (Below.refl _ _) (Nat.le_refl _) (by simp) ?_; (case hd => rfl); (case hg => rfl); (case hr => first | (go_simp; done) | (go_simp; rfl)); (case hp => exact (Reps.none _ _)); intro v245 w2 ho3 hb hg_ hnew_; clear hg_ hnew_; (first | rw [← Ny244.out] at ho3 | (simp only [Int.reduceToNat] at ho3; rw [← Ny244.out] at ho3)); have n0_ := Aside0.mk (Kd.R_lower ho3 (below_size (by repeat (first | (with_reducible first | exact HB.out | apply below_alloc | apply pw_below_drewN | apply below_drew1) | exact HB.out)))); have n1_ := Aside0.mk (below_step (by repeat (first | (with_reducible first | exact HB.out | apply below_alloc | apply pw_below_drewN | apply below_drew1) | exact HB.out)) hb); clear HB; have HO246 := n0_; have HB := n1_; clear n0_ n1_; clear hb ho3))
 go_loopg [3, 4] k (fun kq v3 v4 w' => ∃ (x3_1 : List Int) (x4_1 : Int), v4 = .int .i64 x4_1 ∧ Aside0 (spec_l1Same.l0 kq a0 x3_1 x4_1 = some r) ∧ Aside0 (kq ≤ k) ∧ Aside0 (Kd.R (Kd.int .i64) 3 w' w.heap.size (fun _ => True) v3 x3_1) ∧ Aside0 (Below w.heap.size w w'))
 case atStart => exact ⟨(y244), (0), (by first | rfl | (simp; done) | (simp [*]; done)), H', ⟨Nat.le_refl _⟩, ⟨by (with_reducible repeat (first | apply Kd.R_alloc | apply Kd.R_drewN | apply Kd.R_drew)); exact HO246.out⟩, ⟨by repeat (first | (with_reducible first | exact HB.out | apply below_alloc | apply pw_below_drewN | apply below_drew1) | exact HB.out)⟩⟩
 case round =>
  clear H'
  try clear p2
  obtain ⟨x3_1, x4_1, rfl, HA, HK1, HO_3, HB⟩ := hrel
  cases gk with
  | zero => exact absurd HA.out (by simp [spec_l1Same.l0])
  | succ k1 =>
   have H := HA.out
   clear HA
   simp only [spec_l1Same.l0] at H
   by_cases c4 : x4_1 < a0
   ·rw [if_pos c4] at H
    have c4b0 : decide (x4_1 < a0) = true := decide_eq_true c4
    clear c4
    by_cases c5 : x3_1.length < 17592186044416
    ·rw [if_pos c5] at H
     have LMc5 := Aside0.mk c5
     clear c5
     obtain ⟨y247, hy247⟩ : ∃ y_ : List Int, y_ = (x3_1 ++ [x4_1]) := ⟨_, rfl⟩
     replace H : (spec_l1Same.l0 k1 a0 y247 (wrap64 (x4_1 + 1))) = some r := by first | (rw [hy247]; with_reducible exact H) | (have H2_ := (Option.bind_some _ _).symm.trans H; rw [hy247]; with_reducible exact H2_) | (have H2_ := (Option.bind_some _ _).symm.trans H; with_reducible exact H2_) | with_reducible exact H | (rw [hy247]; exact H) | exact H
     have Ny247 := Aside0.mk hy247
     clear hy247
     have H' := Aside0.mk H
     clear H
     go_wp2_with (first | ((with_reducible refine gate_builtin (b := .append) (xs := #[.tmp 11, .tmp 13]) rfl ?_); at_builtin; refine Kd.R_append (Kd.int .i64) (w0 := w) w.heap.size rfl (.tmp 11) (.tmp 13) 24 3 (.int .i64 0) 8 rfl Try.underlying24 info3 rfl (by decide) (by omega) u3 x3_1 x4_1 [.int .i64 x4_1] (fun _ => True) (fun _ => False) rfl rfl ?aP (fun _ hk => hk.elim) ?aF ?aO ?aB ?aS ?aL ?_; (case aP => exact rfl); (case aB => exact (by repeat (first | (with_reducible first | exact HB.out | apply below_alloc | apply pw_below_drewN | apply below_drew1) | exact HB.out))); (case aF => exact (fun _ _ => trivial)); (case aO => exact (by (with_reducible repeat (first | apply Kd.R_alloc | apply Kd.R_drewN | apply Kd.R_drew)); exact HO_3.out)); (case aS => exact (below_size (by repeat (first | (with_reducible first | exact HB.out | apply below_alloc | apply pw_below_drewN | apply below_drew1) | exact HB.out)))); (case aL => have := LMc5.out; omega); intro v248 w6 ho hb hg hat; rw [← Ny247.out] at ho; have n0_ := Aside0.mk (hb); have n1_ := Aside0.mk (ho); clear HB; clear HO_3; have HB := n0_; have HO249 := n1_; clear n0_ n1_; clear ho hb hg hat))
     go_roundg k1
     case measure => have := HK1.out; omega
     case rel => exact ⟨(y247), (wrap64 (x4_1 + 1)), (by first | rfl | (simp; done) | (simp [*]; done)), H', ⟨by have := HK1.out; omega⟩, ⟨by (with_reducible repeat (first | apply Kd.R_alloc | apply Kd.R_drewN | apply Kd.R_drew)); exact HO249.out⟩, ⟨by repeat (first | (with_reducible first | exact HB.out | apply below_alloc | apply pw_below_drewN | apply below_drew1) | exact HB.out)⟩⟩
    ·rw [if_neg c5] at H
     exact absurd H (by simp)
   ·rw [if_neg c4] at H
    have c4b0 : decide (x4_1 < a0) = false := decide_eq_false c4
    clear c4
    obtain rfl := Option.some.inj H
    go_wp2
    go_ret
    exact ⟨_, by first | rfl | (simp [errW_none, errW_some] <;> rfl) | (simp [*, errW_none, errW_some] <;> rfl), by (with_reducible repeat (first | apply Kd.R_alloc | apply Kd.R_drewN | apply Kd.R_drew)); exact HO_3.out, by repeat (first | (with_reducible first | exact HB.out | apply below_alloc | apply pw_below_drewN | apply below_drew1) | exact HB.out)⟩

end Go.Proofs.Ytpfnchjbbagmdaa.PFnWordCorners
