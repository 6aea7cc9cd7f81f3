import Derived.Test.YtikkokflcgcnbaaGreatDoorMT
import Derived.Test.YtikkokflcgcnbaaGreatDoorMX
set_option linter.unusedVariables false
set_option linter.unusedSimpArgs false
namespace Go.Proofs.YtikkokflcgcnbaaGreatDoor.M
open Go.RowKit Go.Proofs.YtikkokflcgcnbaaGreatDoorW.PrintWords

/-! ### Words are told by their letters -/
theorem bt_ext {a b : ByteArray} (h : a.size = b.size) (he : ∀ i : Nat, i < a.size → bt a (i : Int) = bt b (i : Int)) : a = b := by
  refine ByteArray.ext_getElem h (fun i h1 h2 => ?_)
  have := he i h1
  rw [bt_nat a i h1, bt_nat b i h2] at this
  exact UInt8.toNat_inj.1 (by omega)
/-! ### Classes stay -/
theorem clsS_of {s t : ByteArray} (hd : WSD t ↔ WSD s) (hn : nnW t = nnW s) : clsS t = clsS s := by
  unfold clsS
  by_cases h : WSD s
  · rw [if_pos h, if_pos (hd.2 h), hn]
  · rw [if_neg h, if_neg (fun k => h (hd.1 k)), hn]
theorem nnW_of {s t : ByteArray} (hz : t.size = s.size) (hc : corners t = corners s) : nnW t = nnW s := by unfold nnW numW; rw [hz, hc]
theorem same_of {s t : ByteArray} (ht : WOK t) (hs : WOK s) (h : clsS t = clsS s) : sameS t s = true := decide_eq_true ⟨ht, hs, h⟩
theorem turn_wsd {s : ByteArray} (hw : WOK s) : WSD (turnS s) ↔ WSD s := by
  refine ⟨fun h => ⟨hw, fun i hi e => ?_⟩, turn_sided⟩
  have hz := hw.size
  obtain ⟨h1, h2⟩ := turn_ok hw
  have hq := preN_spec hi
  have hp := (par_spec hw hi).1
  have := h.2 (preN s.size i) (by rw [turnS_size (by omega)]; exact hq.1)
  rw [turn_sm hq.1, h2 _ hq.1, hq.2, turn_sm (preN_spec hp).1, (preN_spec hp).2] at this
  exact this e
theorem back_wsd {s : ByteArray} (hw : WOK s) : WSD (backS s) ↔ WSD s := by
  refine ⟨fun h => ⟨hw, fun i hi e => ?_⟩, back_sided⟩
  obtain ⟨h1, h2⟩ := back_ok hw
  have hp := (par_spec hw hi).1
  have := h.2 (s.size - 1 - i) (by rw [backS_size]; omega)
  rw [back_sm hw (by omega), h2 _ (by omega), show s.size - 1 - (s.size - 1 - i) = i by omega, back_sm hw (by omega), show s.size - 1 - (s.size - 1 - par s i) = par s i by omega] at this
  exact this (by rw [e])
theorem nam_wsd {s : ByteArray} (hw : WOK s) : WSD (namS s 0) ↔ WSD s := by
  have hz := hw.size
  refine ⟨fun h => ⟨hw, fun i hi e => ?_⟩, fun h => nam_sided h 0 (by omega)⟩
  obtain ⟨h1, h2⟩ := nam_ok hw 0 (by omega)
  have := h.2 i (by rw [namS_size]; exact hi)
  rw [h2 i hi] at this
  exact this ((nam_sm hw 0 (by omega) hi).2 e)
theorem cls_turn {s : ByteArray} (hw : WOK s) : clsS (turnS s) = clsS s := clsS_of (turn_wsd hw) (nnW_of (turnS_size (by have := hw.size; omega)) (corners_turn hw))
theorem cls_back {s : ByteArray} (hw : WOK s) : clsS (backS s) = clsS s := clsS_of (back_wsd hw) (nnW_of (backS_size s) (corners_back hw))
theorem cls_nam {s : ByteArray} (hw : WOK s) : clsS (namS s 0) = clsS s := clsS_of (nam_wsd hw) (nnW_of (namS_size s 0) (corners_nam hw))
/-! ### Turned all around -/
def turnI (s : ByteArray) : Nat → ByteArray
  | 0 => s
  | i + 1 => turnS (turnI s i)
theorem turnI_ok {s : ByteArray} (hw : WOK s) : ∀ i, WOK (turnI s i) ∧ (turnI s i).size = s.size
  | 0 => ⟨hw, rfl⟩
  | i + 1 => by
    obtain ⟨h1, h2⟩ := turnI_ok hw i
    have hz := hw.size
    exact ⟨(turn_ok h1).1, by show (turnS (turnI s i)).size = _; rw [turnS_size (by omega), h2]⟩
theorem bt_turnI {s : ByteArray} (hw : WOK s) : ∀ i j : Nat, j < s.size → bt (turnI s i) (j : Int) = bt s (((j + i) % s.size : Nat) : Int)
  | 0, j, hj => by rw [Nat.add_zero, Nat.mod_eq_of_lt hj]; rfl
  | i + 1, j, hj => by
    obtain ⟨h1, h2⟩ := turnI_ok hw i
    show bt (turnS (turnI s i)) (j : Int) = _
    rw [bt_turnS (by omega), h2]
    by_cases e : j + 1 = s.size
    · rw [if_pos e, bt_turnI hw i 0 (by omega), Nat.zero_add, show j + (i + 1) = i + s.size by omega, Nat.add_mod_right]
    · rw [if_neg e, bt_turnI hw i (j + 1) (by omega), show j + 1 + i = j + (i + 1) by omega]
theorem turnI_all {s : ByteArray} (hw : WOK s) : turnI s s.size = s := by
  obtain ⟨h1, h2⟩ := turnI_ok hw s.size
  refine bt_ext h2 (fun i hi => ?_)
  rw [h2] at hi
  rw [bt_turnI hw _ _ hi, Nat.add_mod_right, Nat.mod_eq_of_lt hi]
/-! ### Read back twice -/
theorem back_back {s : ByteArray} (hw : WOK s) : backS (backS s) = s := by
  refine bt_ext (by rw [backS_size, backS_size]) (fun i hi => ?_)
  rw [backS_size, backS_size] at hi
  rw [bt_backS (back_ok hw).1.all (by rw [backS_size]; exact hi), backS_size, bt_backS hw.all (by omega), show s.size - 1 - (s.size - 1 - i) = i by omega]
  exact (fl_slet _ (hw.2 i hi).1).2.2.2.2
theorem back_turn {s : ByteArray} (hw : WOK s) : backS (turnS s) = (backS s).extract (s.size - 1) s.size ++ (backS s).extract 0 (s.size - 1) := by
  have hz := hw.size
  have hb := backS_size s
  have ht := turnS_size (s := s) (by omega)
  have hx : ((backS s).extract (s.size - 1) s.size).size = 1 := by rw [ByteArray.size_extract, hb]; omega
  have hy : ((backS s).extract 0 (s.size - 1)).size = s.size - 1 := by rw [ByteArray.size_extract, hb]; omega
  refine bt_ext (by rw [backS_size, ht, ByteArray.size_append, hx, hy]; omega) (fun i hi => ?_)
  rw [backS_size, ht] at hi
  rw [bt_backS (turn_ok hw).1.all (by rw [ht]; exact hi), ht, bt_turnS (by omega)]
  by_cases e : i = 0
  · subst e
    rw [if_pos (by omega), bt_append_left _ _ 0 (by omega), bt_extract _ _ _ 0 (by omega) (by omega), bt_backS hw.all (by omega), show s.size - 1 - (s.size - 1 + 0) = 0 by omega]
  · have := bt_append_right ((backS s).extract (s.size - 1) s.size) ((backS s).extract 0 (s.size - 1)) (i - 1) (by omega)
    rw [hx, show 1 + (i - 1) = i by omega] at this
    rw [if_neg (by omega), this, bt_extract _ _ _ (i - 1) (by omega) (by omega), bt_backS hw.all (by omega), show s.size - 1 - (0 + (i - 1)) = s.size - 1 - i + 1 by omega]
/-! ### Names are given once -/
theorem nf_same {s t : ByteArray} : ∀ k, (∀ i, i < k → par t i = par s i) → nf t k = nf s k := by
  intro k h
  rw [nf_cnt, nf_cnt]
  exact cntP_congr _ _ _ (fun i hi => by rw [h i hi])
theorem nam_nam {s : ByteArray} (hw : WOK s) : namS (namS s 0) 0 = namS s 0 := by
  have hz := hw.size
  obtain ⟨h1, h2⟩ := nam_ok hw 0 (by omega)
  have hn := namS_size s 0
  have hf : ∀ i, i < s.size → fst_ (namS s 0) i = fst_ s i := fun i hi => by unfold fst_; rw [h2 i hi]
  show strOfNums (namesL (namS s 0) 0) = strOfNums (namesL s 0)
  congr 1
  unfold namesL
  rw [hn]
  refine List.map_congr_left (fun i hi => ?_)
  rw [List.mem_range] at hi
  obtain ⟨f1, f2, f3, f4⟩ := fst_spec hw hi
  have ff : fst_ s (fst_ s i) = fst_ s i := by
    rw [show fst_ s (fst_ s i) = if fst_ s i < par s (fst_ s i) then fst_ s i else par s (fst_ s i) from rfl, if_pos f2]
  have e1 := (wl_namS hw (q := 0) hi (by omega)).2
  have e2 := (wl_namS hw (q := 0) f1 (by omega)).2
  have e0 : ((0 : Nat) : Int) = 0 := rfl
  rw [ff, beq_self_eq_true] at e2
  unfold nmb
  rw [hf i hi, e1, e2, nf_same _ (fun j hj => h2 j (by omega))]
  by_cases c : wsm s i = wsm s (fst_ s i)
  · rw [if_pos c, if_pos (by rw [c, beq_self_eq_true])]
  · rw [if_neg c, if_neg (by rw [beq_eq_false_iff_ne.2 c]; exact Bool.false_ne_true)]
/-- What a loop over the new names sees at a place. -/
theorem nam_seen {s : ByteArray} (hw : WOK s) {i : Nat} (hi : i < s.size) : (i < par s i → bt (namS s 0) (i : Int) = 97 + (nf s i : Int) ∧ nf s (i + 1) = nf s i + 1) ∧ (¬ i < par s i → bt (namS s 0) (i : Int) < 97 + (nf s i : Int) ∧ nf s (i + 1) = nf s i) := by
  have hz := hw.size
  have hb := bt_namS hw (q := 0) hi (by omega)
  have hs : nf s (i + 1) = nf s i + (if i < par s i then 1 else 0) := by
    rw [nf_cnt, nf_cnt]
    simp only [cntP, decide_eq_true_eq]
  obtain ⟨f1, f2, f3, f4⟩ := fst_spec hw hi
  rw [hb]
  unfold nmb
  constructor
  · intro h
    rw [if_pos h] at hs
    have : fst_ s i = i := by unfold fst_; rw [if_pos h]
    rw [this, if_pos rfl]
    exact ⟨by omega, hs⟩
  · intro h
    rw [if_neg h] at hs
    have e : fst_ s i = par s i := by unfold fst_; rw [if_neg h]
    have hne := (par_spec hw hi).2.1
    have := nf_lt s (i := fst_ s i) (j := i) (by omega) f2
    refine ⟨?_, by omega⟩
    split <;> omega
/-! ### Normal words -/
theorem cls_one {E : Nat → Nat → Prop} {n : Nat} (hn : 0 < n) (h : ∀ c, InvE E c → ∀ i, i < n → c i = c 0) : clsN E n = 1 := by
  refine cntP_first _ (lstB_iff.2 (fun j hj => by omega)) n (fun i h0 hi => ?_) hn
  rw [Bool.eq_false_iff]
  intro hl
  exact lstB_iff.1 hl 0 h0 (fun c hc => h c hc i hi)
theorem corners_hand2 : corners (handS 2) = 1 := by
  have hw : WOK (handS 2) := by decide +kernel
  have hz : (handS 2).size = 4 := by decide +kernel
  rw [corners_gap hw, hz]
  refine cls_one (by omega) (fun c hc i hi => ?_)
  have e0 : c 0 = c 3 := hc _ _ ⟨0, by decide +kernel, .inr ⟨by decide +kernel, .inl ⟨by decide +kernel, by decide +kernel⟩⟩⟩
  have e1 : c 1 = c 0 := hc _ _ ⟨1, by decide +kernel, .inr ⟨by decide +kernel, .inl ⟨by decide +kernel, by decide +kernel⟩⟩⟩
  have e2 : c 2 = c 3 := hc _ _ ⟨1, by decide +kernel, .inr ⟨by decide +kernel, .inr ⟨by decide +kernel, by decide +kernel⟩⟩⟩
  have hi' : i = 0 ∨ i = 1 ∨ i = 2 ∨ i = 3 := by omega
  rcases hi' with rfl | rfl | rfl | rfl <;> omega
theorem corners_hand4 : corners (handS 4) = 1 := by
  have hw : WOK (handS 4) := by decide +kernel
  have hz : (handS 4).size = 8 := by decide +kernel
  rw [corners_gap hw, hz]
  refine cls_one (by omega) (fun c hc i hi => ?_)
  have e0 : c 0 = c 3 := hc _ _ ⟨0, by decide +kernel, .inr ⟨by decide +kernel, .inl ⟨by decide +kernel, by decide +kernel⟩⟩⟩
  have e1 : c 2 = c 3 := hc _ _ ⟨1, by decide +kernel, .inr ⟨by decide +kernel, .inr ⟨by decide +kernel, by decide +kernel⟩⟩⟩
  have e2 : c 2 = c 1 := hc _ _ ⟨2, by decide +kernel, .inr ⟨by decide +kernel, .inl ⟨by decide +kernel, by decide +kernel⟩⟩⟩
  have e3 : c 4 = c 1 := hc _ _ ⟨3, by decide +kernel, .inr ⟨by decide +kernel, .inr ⟨by decide +kernel, by decide +kernel⟩⟩⟩
  have e4 : c 4 = c 7 := hc _ _ ⟨4, by decide +kernel, .inr ⟨by decide +kernel, .inl ⟨by decide +kernel, by decide +kernel⟩⟩⟩
  have e5 : c 5 = c 0 := hc _ _ ⟨5, by decide +kernel, .inr ⟨by decide +kernel, .inl ⟨by decide +kernel, by decide +kernel⟩⟩⟩
  have e6 : c 6 = c 7 := hc _ _ ⟨5, by decide +kernel, .inr ⟨by decide +kernel, .inr ⟨by decide +kernel, by decide +kernel⟩⟩⟩
  have hi' : i = 0 ∨ i = 1 ∨ i = 2 ∨ i = 3 ∨ i = 4 ∨ i = 5 ∨ i = 6 ∨ i = 7 := by omega
  rcases hi' with rfl | rfl | rfl | rfl | rfl | rfl | rfl | rfl <;> omega
theorem corners_cap1 : corners (capS 1) = 1 := by
  have hw : WOK (capS 1) := by decide +kernel
  have hz : (capS 1).size = 2 := by decide +kernel
  rw [corners_gap hw, hz]
  refine cls_one (by omega) (fun c hc i hi => ?_)
  have e0 : c 0 = c 1 := hc _ _ ⟨0, by decide +kernel, .inl ⟨by decide +kernel, .inl ⟨by decide +kernel, by decide +kernel⟩⟩⟩
  have hi' : i = 0 ∨ i = 1 := by omega
  rcases hi' with rfl | rfl <;> omega
theorem corners_cap2 : corners (capS 2) = 1 := by
  have hw : WOK (capS 2) := by decide +kernel
  have hz : (capS 2).size = 4 := by decide +kernel
  rw [corners_gap hw, hz]
  refine cls_one (by omega) (fun c hc i hi => ?_)
  have e0 : c 0 = c 1 := hc _ _ ⟨0, by decide +kernel, .inl ⟨by decide +kernel, .inl ⟨by decide +kernel, by decide +kernel⟩⟩⟩
  have e1 : c 1 = c 2 := hc _ _ ⟨0, by decide +kernel, .inl ⟨by decide +kernel, .inr ⟨by decide +kernel, by decide +kernel⟩⟩⟩
  have e2 : c 2 = c 3 := hc _ _ ⟨2, by decide +kernel, .inl ⟨by decide +kernel, .inl ⟨by decide +kernel, by decide +kernel⟩⟩⟩
  have hi' : i = 0 ∨ i = 1 ∨ i = 2 ∨ i = 3 := by omega
  rcases hi' with rfl | rfl | rfl | rfl <;> omega
theorem corners_cap3 : corners (capS 3) = 1 := by
  have hw : WOK (capS 3) := by decide +kernel
  have hz : (capS 3).size = 6 := by decide +kernel
  rw [corners_gap hw, hz]
  refine cls_one (by omega) (fun c hc i hi => ?_)
  have e0 : c 0 = c 1 := hc _ _ ⟨0, by decide +kernel, .inl ⟨by decide +kernel, .inl ⟨by decide +kernel, by decide +kernel⟩⟩⟩
  have e1 : c 1 = c 2 := hc _ _ ⟨0, by decide +kernel, .inl ⟨by decide +kernel, .inr ⟨by decide +kernel, by decide +kernel⟩⟩⟩
  have e2 : c 2 = c 3 := hc _ _ ⟨2, by decide +kernel, .inl ⟨by decide +kernel, .inl ⟨by decide +kernel, by decide +kernel⟩⟩⟩
  have e3 : c 3 = c 4 := hc _ _ ⟨2, by decide +kernel, .inl ⟨by decide +kernel, .inr ⟨by decide +kernel, by decide +kernel⟩⟩⟩
  have e4 : c 4 = c 5 := hc _ _ ⟨4, by decide +kernel, .inl ⟨by decide +kernel, .inl ⟨by decide +kernel, by decide +kernel⟩⟩⟩
  have hi' : i = 0 ∨ i = 1 ∨ i = 2 ∨ i = 3 ∨ i = 4 ∨ i = 5 := by omega
  rcases hi' with rfl | rfl | rfl | rfl | rfl | rfl <;> omega
theorem corners_cap4 : corners (capS 4) = 1 := by
  have hw : WOK (capS 4) := by decide +kernel
  have hz : (capS 4).size = 8 := by decide +kernel
  rw [corners_gap hw, hz]
  refine cls_one (by omega) (fun c hc i hi => ?_)
  have e0 : c 0 = c 1 := hc _ _ ⟨0, by decide +kernel, .inl ⟨by decide +kernel, .inl ⟨by decide +kernel, by decide +kernel⟩⟩⟩
  have e1 : c 1 = c 2 := hc _ _ ⟨0, by decide +kernel, .inl ⟨by decide +kernel, .inr ⟨by decide +kernel, by decide +kernel⟩⟩⟩
  have e2 : c 2 = c 3 := hc _ _ ⟨2, by decide +kernel, .inl ⟨by decide +kernel, .inl ⟨by decide +kernel, by decide +kernel⟩⟩⟩
  have e3 : c 3 = c 4 := hc _ _ ⟨2, by decide +kernel, .inl ⟨by decide +kernel, .inr ⟨by decide +kernel, by decide +kernel⟩⟩⟩
  have e4 : c 4 = c 5 := hc _ _ ⟨4, by decide +kernel, .inl ⟨by decide +kernel, .inl ⟨by decide +kernel, by decide +kernel⟩⟩⟩
  have e5 : c 5 = c 6 := hc _ _ ⟨4, by decide +kernel, .inl ⟨by decide +kernel, .inr ⟨by decide +kernel, by decide +kernel⟩⟩⟩
  have e6 : c 6 = c 7 := hc _ _ ⟨6, by decide +kernel, .inl ⟨by decide +kernel, .inl ⟨by decide +kernel, by decide +kernel⟩⟩⟩
  have hi' : i = 0 ∨ i = 1 ∨ i = 2 ∨ i = 3 ∨ i = 4 ∨ i = 5 ∨ i = 6 ∨ i = 7 := by omega
  rcases hi' with rfl | rfl | rfl | rfl | rfl | rfl | rfl | rfl <;> omega
theorem corners_cap5 : corners (capS 5) = 1 := by
  have hw : WOK (capS 5) := by decide +kernel
  have hz : (capS 5).size = 10 := by decide +kernel
  rw [corners_gap hw, hz]
  refine cls_one (by omega) (fun c hc i hi => ?_)
  have e0 : c 0 = c 1 := hc _ _ ⟨0, by decide +kernel, .inl ⟨by decide +kernel, .inl ⟨by decide +kernel, by decide +kernel⟩⟩⟩
  have e1 : c 1 = c 2 := hc _ _ ⟨0, by decide +kernel, .inl ⟨by decide +kernel, .inr ⟨by decide +kernel, by decide +kernel⟩⟩⟩
  have e2 : c 2 = c 3 := hc _ _ ⟨2, by decide +kernel, .inl ⟨by decide +kernel, .inl ⟨by decide +kernel, by decide +kernel⟩⟩⟩
  have e3 : c 3 = c 4 := hc _ _ ⟨2, by decide +kernel, .inl ⟨by decide +kernel, .inr ⟨by decide +kernel, by decide +kernel⟩⟩⟩
  have e4 : c 4 = c 5 := hc _ _ ⟨4, by decide +kernel, .inl ⟨by decide +kernel, .inl ⟨by decide +kernel, by decide +kernel⟩⟩⟩
  have e5 : c 5 = c 6 := hc _ _ ⟨4, by decide +kernel, .inl ⟨by decide +kernel, .inr ⟨by decide +kernel, by decide +kernel⟩⟩⟩
  have e6 : c 6 = c 7 := hc _ _ ⟨6, by decide +kernel, .inl ⟨by decide +kernel, .inl ⟨by decide +kernel, by decide +kernel⟩⟩⟩
  have e7 : c 7 = c 8 := hc _ _ ⟨6, by decide +kernel, .inl ⟨by decide +kernel, .inr ⟨by decide +kernel, by decide +kernel⟩⟩⟩
  have e8 : c 8 = c 9 := hc _ _ ⟨8, by decide +kernel, .inl ⟨by decide +kernel, .inl ⟨by decide +kernel, by decide +kernel⟩⟩⟩
  have hi' : i = 0 ∨ i = 1 ∨ i = 2 ∨ i = 3 ∨ i = 4 ∨ i = 5 ∨ i = 6 ∨ i = 7 ∨ i = 8 ∨ i = 9 := by omega
  rcases hi' with rfl | rfl | rfl | rfl | rfl | rfl | rfl | rfl | rfl | rfl <;> omega
theorem corners_hand0 : corners (handS 0) = 2 := by
  have hw : WOK (handS 0) := by decide +kernel
  have hz : (handS 0).size = 2 := by decide +kernel
  have h1 := euler_le hw
  have h2 : 2 ≤ corners (handS 0) := by
    rw [corners_gap hw, hz]
    have l0 : lstB (EG (handS 0)) 0 = true := lstB_iff.2 (fun j hj => by omega)
    have l1 : lstB (EG (handS 0)) 1 = true := lstB_iff.2 (fun j hj hc => by
      obtain rfl : j = 0 := by omega
      have := hc id (EGd_inv.2 (fun i hi => by
        rw [hz] at hi
        have : i = 0 ∨ i = 1 := by omega
        rcases this with rfl | rfl
        · exact ⟨fun h => absurd h (by decide +kernel), fun _ => by decide +kernel⟩
        · exact ⟨fun h => absurd h (by decide +kernel), fun _ => by decide +kernel⟩))
      exact absurd this (by decide))
    simp [clsN, cntP, l0, l1]
  omega
theorem hand_nn {n : Nat} (h : n = 0 ∨ n = 2 ∨ n = 4) : nnW (handS n) = n := by
  unfold nnW
  rcases h with rfl | rfl | rfl
  · rw [corners_hand0]; decide +kernel
  · rw [corners_hand2]; decide +kernel
  · rw [corners_hand4]; decide +kernel
theorem cap_nn {n : Nat} (h1 : 1 ≤ n) (h2 : n ≤ 5) : nnW (capS n) = n ∧ WOK (capS n) ∧ ¬ WSD (capS n) ∧ corners (capS n) = 1 := by
  have : n = 1 ∨ n = 2 ∨ n = 3 ∨ n = 4 ∨ n = 5 := by omega
  unfold nnW
  rcases this with rfl | rfl | rfl | rfl | rfl
  · rw [corners_cap1]; decide +kernel
  · rw [corners_cap2]; decide +kernel
  · rw [corners_cap3]; decide +kernel
  · rw [corners_cap4]; decide +kernel
  · rw [corners_cap5]; decide +kernel
theorem norm_ok {s : ByteArray} (hw : WOK s) : WOK (normS s) ∧ nnW (normS s) = nnW s ∧ (WSD (normS s) ↔ WSD s) := by
  unfold normS
  by_cases h : WSD s
  · rw [if_pos h]
    have hn := nnW_sided h
    exact ⟨(hand_sided hn).1, hand_nn hn, ⟨fun _ => h, fun _ => hand_sided hn⟩⟩
  · rw [if_neg h]
    obtain ⟨n1, n2⟩ := nnW_unsided hw h
    obtain ⟨a, b, c, d⟩ := cap_nn n1 n2
    exact ⟨b, a, ⟨fun k => absurd k c, fun k => absurd k h⟩⟩
theorem cls_norm {s : ByteArray} (hw : WOK s) : clsS (normS s) = clsS s := clsS_of (norm_ok hw).2.2 (norm_ok hw).2.1
theorem norm_norm {s : ByteArray} (hw : WOK s) : normS (normS s) = normS s := by
  obtain ⟨h1, h2, h3⟩ := norm_ok hw
  rw [show normS (normS s) = if WSD (normS s) then handS (nnW (normS s)) else capS (nnW (normS s)) from rfl, h2]
  by_cases h : WSD s
  · rw [if_pos (h3.2 h), normS, if_pos h]
  · rw [if_neg (fun k => h (h3.1 k)), normS, if_neg h]
theorem norm_corners {s : ByteArray} (hw : WOK s) : corners (normS s) = 1 ∨ (corners (normS s) = 2 ∧ normS s = handS 0) := by
  by_cases h : WSD s
  · have e : normS s = handS (nnW s) := by unfold normS; rw [if_pos h]
    rcases nnW_sided h with k | k | k
    · rw [e, k]; exact .inr ⟨corners_hand0, rfl⟩
    · rw [e, k]; exact .inl corners_hand2
    · rw [e, k]; exact .inl corners_hand4
  · have e : normS s = capS (nnW s) := by unfold normS; rw [if_neg h]
    obtain ⟨n1, n2⟩ := nnW_unsided hw h
    rw [e]; exact .inl (cap_nn n1 n2).2.2.2
theorem norm_size {s : ByteArray} (hw : WOK s) : (normS s).size ≤ s.size := by
  have hz := hw.size
  have h1 := corners_pos hw
  have hn : nnW s = 1 + s.size / 2 - corners s := rfl
  by_cases h : WSD s
  · have e : normS s = handS (nnW s) := by unfold normS; rw [if_pos h]
    rw [e]
    rcases nnW_sided h with k | k | k
    · rw [k]; have : (handS 0).size = 2 := by decide +kernel
      omega
    · rw [k]; have : (handS 2).size = 4 := by decide +kernel
      omega
    · rw [k]; have : (handS 4).size = 8 := by decide +kernel
      omega
  · have e : normS s = capS (nnW s) := by unfold normS; rw [if_neg h]
    rw [e]; unfold capS
    rw [ByteArray.size_extract]; omega

end Go.Proofs.YtikkokflcgcnbaaGreatDoor.M
