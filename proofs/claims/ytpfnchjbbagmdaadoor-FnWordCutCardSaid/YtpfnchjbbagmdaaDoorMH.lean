import Derived.Test.YtpfnchjbbagmdaaDoorMZ
set_option linter.unusedVariables false
set_option linter.unusedSimpArgs false
namespace Go.Proofs.YtpfnchjbbagmdaaDoor.M
open Go.RowKit Go.Proofs.YtpfnchjbbagmdaaDoorW.PrintWords

/-! ### The word behind a cut -/
def sameB (s : ByteArray) (k : Nat) : Bool := decide (wsm s k = wsm s (par s k))
def restS (s : ByteArray) (i k : Nat) : ByteArray := (s.extract (par s k + 1) s.size ++ strOfNums [65 + wl s k]) ++ s.extract i (par s k)
theorem strOne_size (v : Int) : (strOfNums [v]).size = 1 := strOfNums_size _
theorem bt_strOne (v : Int) (h0 : 0 ≤ v) (h1 : v ≤ 255) : bt (strOfNums [v]) ((0 : Nat) : Int) = v := bt_strOfNums [v] 0 (by simp) h0 h1
theorem cutN_of {s : ByteArray} (hw : WOK s) {i k : Nat} (hk : k < i) (hi : i < s.size) (hm : i ≤ par s k) : CutN s.size i k (par s k) := ⟨hk, hi, hm, (par_spec hw (show k < s.size by omega)).1⟩
section
variable {s : ByteArray} {i k : Nat}
theorem restS_size (h : CutN s.size i k (par s k)) : (restS s i k).size = s.size - i := by
  obtain ⟨h1, h2, h3, h4⟩ := h
  unfold restS
  rw [ByteArray.size_append, ByteArray.size_append, ByteArray.size_extract, ByteArray.size_extract, strOne_size]; omega
theorem wl_bd (hw : WOK s) {k : Nat} (hk : k < s.size) : 0 ≤ wl s k ∧ wl s k < 5 := ⟨(hw.2 k hk).1, (slet_range (bt s (k : Int))).2⟩
theorem bt_rest (hw : WOK s) (h : CutN s.size i k (par s k)) {r : Nat} (hr : r < s.size - i) :
    (r < s.size - par s k - 1 → bt (restS s i k) (r : Int) = bt s ((par s k + 1 + r : Nat) : Int)) ∧ (r = s.size - par s k - 1 → bt (restS s i k) (r : Int) = 65 + wl s k) ∧
    (s.size - par s k - 1 < r → bt (restS s i k) (r : Int) = bt s ((i + (r - (s.size - par s k)) : Nat) : Int)) := by
  obtain ⟨h1, h2, h3, h4⟩ := h
  have hb := wl_bd hw (show k < s.size by omega)
  have zD : (s.extract (par s k + 1) s.size).size = s.size - par s k - 1 := by rw [ByteArray.size_extract]; omega
  have zY := strOne_size (65 + wl s k)
  have zDY : (s.extract (par s k + 1) s.size ++ strOfNums [65 + wl s k]).size = s.size - par s k := by rw [ByteArray.size_append, zD, zY]; omega
  unfold restS
  refine ⟨fun q => ?_, fun q => ?_, fun q => ?_⟩
  · rw [bt_append_left _ _ r (by omega), bt_append_left _ _ r (by omega), bt_extract s _ _ r (by omega) (by omega)]
  · rw [bt_append_left _ _ r (by omega)]
    have := bt_append_right (s.extract (par s k + 1) s.size) (strOfNums [65 + wl s k]) 0 (by omega)
    rw [zD, Nat.add_zero, ← q, bt_strOne _ (by omega) (by omega)] at this
    exact this
  · have zC : (s.extract i (par s k)).size = par s k - i := by rw [ByteArray.size_extract]; omega
    have := bt_append_right (s.extract (par s k + 1) s.size ++ strOfNums [65 + wl s k]) (s.extract i (par s k)) (r - (s.size - par s k)) (by omega)
    rw [zDY, show s.size - par s k + (r - (s.size - par s k)) = r by omega, bt_extract s _ _ _ (by omega) (by omega)] at this
    exact this
theorem cutS_eq (s : ByteArray) (i k : Nat) : cutS s i k = ((s.extract (k + 1) i ++ strOfNums [97 + wl s k]) ++ s.extract 0 k) ++ (if sameB s k = true then backS (restS s i k) else restS s i k) := by
  unfold cutS sameB restS
  by_cases e : wsm s k = wsm s (par s k)
  · rw [if_pos e, if_pos (decide_eq_true e)]
  · rw [if_neg e, if_neg (by simp [e])]
theorem cutS_size (h : CutN s.size i k (par s k)) : (cutS s i k).size = s.size := by
  have hr := restS_size h
  obtain ⟨h1, h2, h3, h4⟩ := h
  rw [cutS_eq, ByteArray.size_append, ByteArray.size_append, ByteArray.size_append, ByteArray.size_extract, ByteArray.size_extract, strOne_size]
  split
  · rw [backS_size, hr]; omega
  · rw [hr]; omega
/-- The letters behind the cut. -/
theorem bt_cutS (hw : WOK s) (h : CutN s.size i k (par s k)) {j : Nat} (hj : j < s.size) :
    bt (cutS s i k) (j : Int) = if j = i - k - 1 then 97 + wl s k else if j = cutY s.size i (par s k) (sameB s k) then (if sameB s k = true then 97 + wl s k else 65 + wl s k) else
      if sameB s k = true ∧ i ≤ j then fl (bt s (cutP s.size i k (par s k) (sameB s k) j : Int)) else bt s (cutP s.size i k (par s k) (sameB s k) j : Int) := by
  have hr := restS_size h
  have hall : AllLet (restS s i k) := rest_all hw i k (by have := h.hk; have := h.hi; omega)
  have hbr := fun r => bt_rest hw h (r := r)
  have hN := h
  obtain ⟨h1, h2, h3, h4⟩ := h
  have hb := wl_bd hw (show k < s.size by omega)
  have zB : (s.extract (k + 1) i).size = i - k - 1 := by rw [ByteArray.size_extract]; omega
  have zY := strOne_size (97 + wl s k)
  have zBY : (s.extract (k + 1) i ++ strOfNums [97 + wl s k]).size = i - k := by rw [ByteArray.size_append, zB, zY]; omega
  have zA : (s.extract 0 k).size = k := by rw [ByteArray.size_extract]; omega
  have zF : ((s.extract (k + 1) i ++ strOfNums [97 + wl s k]) ++ s.extract 0 k).size = i := by rw [ByteArray.size_append, zBY, zA]; omega
  have hY : i ≤ cutY s.size i (par s k) (sameB s k) := (cutP_spot hN (sameB s k)).2.2.2
  rw [cutS_eq]
  by_cases q1 : j < i - k - 1
  · rw [bt_append_left _ _ j (by omega), bt_append_left _ _ j (by omega), bt_append_left _ _ j (by omega), bt_extract s _ _ j (by omega) (by omega), if_neg (by omega), if_neg (by omega), if_neg (fun w => absurd w.2 (by omega))]
    unfold cutP; rw [if_pos q1]
  by_cases q2 : j = i - k - 1
  · rw [if_pos q2, bt_append_left _ _ j (by omega), bt_append_left _ _ j (by omega)]
    have := bt_append_right (s.extract (k + 1) i) (strOfNums [97 + wl s k]) 0 (by omega)
    rw [zB, Nat.add_zero, ← q2, bt_strOne _ (by omega) (by omega)] at this
    exact this
  by_cases q3 : j < i
  · rw [if_neg q2, bt_append_left _ _ j (by omega), if_neg (by omega), if_neg (fun w => absurd w.2 (by omega))]
    have := bt_append_right (s.extract (k + 1) i ++ strOfNums [97 + wl s k]) (s.extract 0 k) (j - (i - k)) (by omega)
    rw [zBY, show i - k + (j - (i - k)) = j by omega, bt_extract s _ _ _ (by omega) (by omega), Nat.zero_add] at this
    rw [this]
    unfold cutP; rw [if_neg q1, if_neg q2, if_pos q3]
  rw [if_neg q2]
  have hsplit : ∀ t : ByteArray, t.size = s.size - i → bt (((s.extract (k + 1) i ++ strOfNums [97 + wl s k]) ++ s.extract 0 k) ++ t) (j : Int) = bt t ((j - i : Nat) : Int) := fun t ht => by
    have := bt_append_right ((s.extract (k + 1) i ++ strOfNums [97 + wl s k]) ++ s.extract 0 k) t (j - i) (by omega)
    rw [zF, show i + (j - i) = j by omega] at this
    exact this
  cases e : sameB s k with
  | true =>
    rw [if_pos rfl, hsplit _ (by rw [backS_size, hr]), bt_backS hall (by rw [hr]; omega), hr, show s.size - i - 1 - (j - i) = s.size - 1 - j by omega]
    have hx := hbr (s.size - 1 - j) (by omega)
    unfold cutY
    rw [if_pos rfl]
    rcases (by omega : j < par s k ∨ j = par s k ∨ par s k < j) with q | q | q
    · rw [if_neg (by omega), if_pos ⟨rfl, by omega⟩, hx.2.2 (by omega)]
      unfold cutP; rw [if_neg q1, if_neg q2, if_neg q3, if_pos rfl, if_pos q, show i + (s.size - 1 - j - (s.size - par s k)) = i + par s k - 1 - j by omega]
    · rw [if_pos q, if_pos rfl, hx.2.1 (by omega)]
      unfold fl; rw [if_neg (by omega)]; omega
    · rw [if_neg (by omega), if_pos ⟨rfl, by omega⟩, hx.1 (by omega)]
      unfold cutP; rw [if_neg q1, if_neg q2, if_neg q3, if_pos rfl, if_neg (by omega), if_neg (by omega), show par s k + 1 + (s.size - 1 - j) = s.size + par s k - j by omega]
  | false =>
    rw [if_neg (show ¬ (false = true) by simp), hsplit _ hr]
    have hx := hbr (j - i) (by omega)
    have hyy : cutY s.size i (par s k) false = i + s.size - par s k - 1 := by unfold cutY; rw [if_neg (show ¬ (false = true) by simp)]
    rw [hyy]
    rcases (by omega : j < i + s.size - par s k - 1 ∨ j = i + s.size - par s k - 1 ∨ i + s.size - par s k - 1 < j) with q | q | q
    · rw [if_neg (show ¬ (j = i + s.size - par s k - 1) by omega), if_neg (show ¬ (false = true ∧ i ≤ j) by simp), hx.1 (by omega)]
      unfold cutP; rw [if_neg q1, if_neg q2, if_neg q3, if_neg (by simp), if_pos q]
    · rw [if_pos q, if_neg (show ¬ (false = true) by simp), hx.2.1 (by omega)]
    · rw [if_neg (show ¬ (j = i + s.size - par s k - 1) by omega), if_neg (show ¬ (false = true ∧ i ≤ j) by simp), hx.2.2 (by omega)]
      unfold cutP; rw [if_neg q1, if_neg q2, if_neg q3, if_neg (by simp), if_neg (by omega), if_neg (by omega), show i + (j - i - (s.size - par s k)) = j - (s.size - par s k) by omega]
theorem wl_cutS (hw : WOK s) (h : CutN s.size i k (par s k)) {j : Nat} (hj : j < s.size) : wl (cutS s i k) j = wl s (cutP s.size i k (par s k) (sameB s k) j) := by
  have hb := wl_bd hw (show k < s.size by have := h.hk; have := h.hi; omega)
  obtain ⟨s1, s2, s3, s4⟩ := cutP_spot h (sameB s k)
  have hlm : wl s (par s k) = wl s k := (par_spec hw (show k < s.size by have := h.hk; have := h.hi; omega)).2.2.1
  have hx := ((cutPQ h (sameB s k)).1 j hj).1
  show slet (bt (cutS s i k) (j : Int)) = _
  rw [bt_cutS hw h hj]
  split
  · next q => rw [(slet_small hb.1 hb.2).1, q, s1]
  split
  · next q =>
    split
    · rw [(slet_small hb.1 hb.2).1, q, s2, hlm]
    · rw [(slet_small hb.1 hb.2).2, q, s2, hlm]
  split
  · exact (fl_slet _ (hw.2 _ hx).1).1
  · rfl
theorem sm_cutS (hw : WOK s) (h : CutN s.size i k (par s k)) {j : Nat} (hj : j < s.size) :
    (j = i - k - 1 → wsm (cutS s i k) j = true) ∧ (j = cutY s.size i (par s k) (sameB s k) → wsm (cutS s i k) j = sameB s k) ∧
    (j ≠ i - k - 1 → j ≠ cutY s.size i (par s k) (sameB s k) → wsm (cutS s i k) j = (wsm s (cutP s.size i k (par s k) (sameB s k) j) != decide (sameB s k = true ∧ i ≤ j))) := by
  have hb := wl_bd hw (show k < s.size by have := h.hk; have := h.hi; omega)
  obtain ⟨s1, s2, s3, s4⟩ := cutP_spot h (sameB s k)
  have hx := ((cutPQ h (sameB s k)).1 j hj).1
  have hk := h.hk
  unfold wsm
  rw [bt_cutS hw h hj]
  refine ⟨fun q => ?_, fun q => ?_, fun q1 q2 => ?_⟩
  · rw [if_pos q]; exact decide_eq_true (by omega)
  · rw [if_neg (by omega), if_pos q]
    cases e : sameB s k with
    | true => rw [if_pos rfl]; exact decide_eq_true (by omega)
    | false => rw [if_neg (by simp)]; exact decide_eq_false (by omega)
  · rw [if_neg q1, if_neg q2]
    by_cases f : sameB s k = true ∧ i ≤ j
    · rw [if_pos f, decide_eq_true f, (fl_slet _ (hw.2 _ hx).1).2.2.2.1]
      cases decide (bt s (cutP s.size i k (par s k) (sameB s k) j : Int) ≥ 97) <;> rfl
    · rw [if_neg f, decide_eq_false f]
      cases decide (bt s (cutP s.size i k (par s k) (sameB s k) j : Int) ≥ 97) <;> rfl
theorem cut_ok (hw : WOK s) (h : CutN s.size i k (par s k)) : WOK (cutS s i k) ∧ ∀ j, j < s.size → par (cutS s i k) j = cutQ s.size i k (par s k) (sameB s k) (par s (cutP s.size i k (par s k) (sameB s k) j)) := by
  obtain ⟨P, Q⟩ := cutPQ h (sameB s k)
  exact hw.map (cutS_size h) _ _ P Q (fun j hj => by rw [wl_cutS hw h hj]; exact (hw.2 _ (P j hj).1).1) (fun a b ha hb => by rw [wl_cutS hw h ha, wl_cutS hw h hb])
theorem flag_move (A B : Bool) (F F' : Prop) [Decidable F] [Decidable F'] : ((A != decide F) = (B != decide F')) ↔ ((F ↔ F') ↔ A = B) := by
  by_cases f : F <;> by_cases f' : F' <;> cases A <;> cases B <;> simp [f, f']
theorem cut_rel (hw : WOK s) (h : CutN s.size i k (par s k)) : CutR s.size i k (par s k) (sameB s k) (par s) (par (cutS s i k)) (smW s) (smW (cutS s i k)) := by
  obtain ⟨cw, cp⟩ := cut_ok hw h
  obtain ⟨s1, s2, s3, s4⟩ := cutP_spot h (sameB s k)
  obtain ⟨t1, t2⟩ := cutQ_spot h (sameB s k)
  have hk := h.hk
  have hi := h.hi
  have hks : k < s.size := by omega
  have hpp := par_par hw hks
  have hsame : smW s k ↔ sameB s k = true := by unfold smW sameB; rw [decide_eq_true_iff]
  refine ⟨fun x hx => ⟨(par_spec hw hx).1, par_par hw hx⟩, rfl, hsame, ?_, cp, fun j hj j1 j2 => ?_, ?_, ?_⟩
  · rw [← hsame]; unfold smW; rw [hpp]; exact eq_comm
  · obtain ⟨P, Q⟩ := cutPQ h (sameB s k)
    have hx := (P j hj).1
    have hpx := par_spec hw hx
    have hq := Q _ hpx.1
    have e0 := cp j hj
    have n1 : par (cutS s i k) j ≠ i - k - 1 := fun w => j2 (by
      have e1 : par s (cutP s.size i k (par s k) (sameB s k) j) = k := by rw [← hq.2, ← e0, w, s1]
      have e2 := congrArg (par s) e1
      rw [par_par hw hx] at e2
      rw [← (P j hj).2, e2, t2])
    have n2 : par (cutS s i k) j ≠ cutY s.size i (par s k) (sameB s k) := fun w => j1 (by
      have e1 : par s (cutP s.size i k (par s k) (sameB s k) j) = par s k := by rw [← hq.2, ← e0, w, s2]
      have e2 : cutP s.size i k (par s k) (sameB s k) j = k := by rw [← par_par hw hx, e1, hpp]
      rw [← (P j hj).2, e2, t1])
    have hpj : par (cutS s i k) j < s.size := by rw [e0]; exact hq.1
    have g1 := cutP_ge h (sameB s k) hj j1 j2
    have g2 := cutP_ge h (sameB s k) hpj n1 n2
    rw [e0, hq.2] at g2
    unfold smW
    rw [(sm_cutS hw h hj).2.2 j1 j2, (sm_cutS hw h hpj).2.2 n1 n2]
    rw [e0, hq.2, g1, g2]
    exact flag_move _ _ _ _
  · unfold smW
    rw [(sm_cutS hw h (by omega)).1 rfl, cp _ (by omega), s1, t2, (sm_cutS hw h s3).2.1 rfl]
    exact eq_comm
  · unfold smW
    rw [(sm_cutS hw h s3).2.1 rfl, cp _ s3, s2, hpp, t1, (sm_cutS hw h (by omega)).1 rfl]
theorem corners_cut (hw : WOK s) (h : CutN s.size i k (par s k)) : corners (cutS s i k) = corners s := by
  rw [corners_gap hw, corners_gap (cut_ok hw h).1, cutS_size h]
  show clsN (EGd (cutS s i k).size (par (cutS s i k)) (smW (cutS s i k))) s.size = _
  rw [cutS_size h]
  exact cut_cls h (cut_rel hw h)
theorem cut_wsd (hw : WOK s) (h : CutN s.size i k (par s k)) : WSD (cutS s i k) ↔ WSD s := by
  have r := cut_rel hw h
  have hk := h.hk
  have hi := h.hi
  obtain ⟨s1, s2, s3, s4⟩ := cutP_spot h (sameB s k)
  obtain ⟨P, Q⟩ := cutPQ h (sameB s k)
  constructor
  · intro hd
    refine ⟨hw, fun x hx => ?_⟩
    have he : sameB s k = false := by
      have := hd.2 (i - k - 1) (by rw [cutS_size h]; omega)
      cases e : sameB s k with
      | false => rfl
      | true => exact absurd (r.sb.2 e) this
    by_cases x1 : x = k
    · subst x1; exact fun w => by have := r.sk.1 w; rw [he] at this; cases this
    by_cases x2 : x = par s k
    · subst x2; exact fun w => by have := r.sm.1 w; rw [he] at this; cases this
    have hq := Q x hx
    have z1 : cutQ s.size i k (par s k) (sameB s k) x ≠ i - k - 1 := fun w => x1 (by rw [← hq.2, w, s1])
    have z2 : cutQ s.size i k (par s k) (sameB s k) x ≠ cutY s.size i (par s k) (sameB s k) := fun w => x2 (by rw [← hq.2, w, s2])
    have hse := r.se _ hq.1 z1 z2
    rw [hq.2] at hse
    have := hd.2 _ (show cutQ s.size i k (par s k) (sameB s k) x < (cutS s i k).size by rw [cutS_size h]; exact hq.1)
    intro w
    refine this (hse.2 ⟨fun _ => w, fun _ => ?_⟩)
    rw [he]; simp
  · intro hd
    have he : sameB s k = false := by
      cases e : sameB s k with
      | false => rfl
      | true => exact absurd (r.sk.2 e) (hd.2 k (by omega))
    refine ⟨(cut_ok hw h).1, fun j hj => ?_⟩
    rw [cutS_size h] at hj
    by_cases j1 : j = i - k - 1
    · subst j1; exact fun w => by have := r.sb.1 w; rw [he] at this; cases this
    by_cases j2 : j = cutY s.size i (par s k) (sameB s k)
    · subst j2; exact fun w => by have := r.sy.1 w; rw [he] at this; cases this
    intro w
    have hw2 := (r.se j hj j1 j2).1 w
    refine hd.2 _ (P j hj).1 (hw2.1 ?_)
    rw [he]; simp
theorem cls_cut (hw : WOK s) (h : CutN s.size i k (par s k)) : clsS (cutS s i k) = clsS s := clsS_of (cut_wsd hw h) (nnW_of (cutS_size h) (corners_cut hw h))
end

end Go.Proofs.YtpfnchjbbagmdaaDoor.M
