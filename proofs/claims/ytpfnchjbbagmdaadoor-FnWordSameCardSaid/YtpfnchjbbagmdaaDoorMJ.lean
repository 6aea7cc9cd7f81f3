import Derived.Test.YtpfnchjbbagmdaaDoorMY
set_option linter.unusedVariables false
set_option linter.unusedSimpArgs false
namespace Go.Proofs.YtpfnchjbbagmdaaDoor.M
open Go.RowKit Go.Proofs.YtpfnchjbbagmdaaDoorW.PrintWords

/-! ### Surfaces joined -/
theorem cntP_split (p : Nat → Bool) (m : Nat) : ∀ n, cntP p (m + n) = cntP p m + cntP (fun j => p (m + j)) n
  | 0 => rfl
  | n + 1 => by
    have := cntP_split p m n
    rw [show m + (n + 1) = (m + n) + 1 by omega]
    simp only [cntP]; omega
theorem even_inv {n : Nat} {h : Nat → Nat} (hh : ∀ i, i < n → h i < n ∧ h (h i) = i ∧ h i ≠ i) (p : Nat → Bool) (hp : ∀ i, i < n → p (h i) = p i) : cntP p n % 2 = 0 := by
  have e1 : cntP (fun i => p (h i) && decide (h i < h (h i))) n = cntP (fun i => p i && decide (i < h i)) n := cntP_perm (fun i => p i && decide (i < h i)) h h (fun i hi => ⟨(hh i hi).1, (hh i hi).2.1⟩) (fun i hi => ⟨(hh i hi).1, (hh i hi).2.1⟩)
  have e2 : cntP p n = cntP (fun i => p i && decide (i < h i)) n + cntP (fun i => p (h i) && decide (h i < h (h i))) n := by
    rw [cntP_sum, cntP_sum, cntP_sum, ← sumN_add]
    refine sumN_congr fun i hi => ?_
    obtain ⟨a, b, c⟩ := hh i hi
    rw [hp i hi, b]
    by_cases q : p i = true
    · rw [q]
      by_cases r : i < h i
      · rw [decide_eq_true r, decide_eq_false (show ¬ h i < i by omega)]; simp
      · rw [decide_eq_false r, decide_eq_true (show h i < i by omega)]; simp
    · rw [Bool.eq_false_iff.2 q]; simp
  omega
def unE (m : Nat) (E1 E2 : Nat → Nat → Prop) : Nat → Nat → Prop := fun a b => E1 a b ∨ ∃ x y, a = m + x ∧ b = m + y ∧ E2 x y
theorem unE_inv {m : Nat} {E1 E2 : Nat → Nat → Prop} {c : Nat → Nat} : InvE (unE m E1 E2) c ↔ InvE E1 c ∧ InvE E2 (fun x => c (m + x)) := by
  constructor
  · exact fun h => ⟨fun x y e => h _ _ (.inl e), fun x y e => h _ _ (.inr ⟨x, y, rfl, rfl, e⟩)⟩
  · rintro ⟨h1, h2⟩ a b (e | ⟨x, y, rfl, rfl, e⟩)
    · exact h1 _ _ e
    · exact h2 _ _ e
theorem unE_left {m : Nat} {E1 E2 : Nat → Nat → Prop} (h1 : ∀ a b, E1 a b → a < m ∧ b < m) {i j : Nat} (hi : i < m) (hj : j < m) : ConE (unE m E1 E2) i j ↔ ConE E1 i j := by
  refine ⟨fun h c hc => ?_, fun h c hc => h c (unE_inv.1 hc).1⟩
  have := h (fun z => if z < m then c z else 0) (unE_inv.2 ⟨fun a b e => by
    obtain ⟨x, y⟩ := h1 a b e
    show (if a < m then c a else 0) = (if b < m then c b else 0)
    rw [if_pos x, if_pos y]; exact hc a b e, fun a b e => by
    show (if m + a < m then c (m + a) else 0) = (if m + b < m then c (m + b) else 0)
    rw [if_neg (by omega), if_neg (by omega)]⟩)
  simp only [if_pos hi, if_pos hj] at this
  exact this
theorem unE_right {m : Nat} {E1 E2 : Nat → Nat → Prop} (h1 : ∀ a b, E1 a b → a < m ∧ b < m) {i j : Nat} : ConE (unE m E1 E2) (m + i) (m + j) ↔ ConE E2 i j := by
  refine ⟨fun h c hc => ?_, fun h c hc => h _ (unE_inv.1 hc).2⟩
  have := h (fun z => if z < m then 0 else c (z - m)) (unE_inv.2 ⟨fun a b e => by
    obtain ⟨x, y⟩ := h1 a b e
    show (if a < m then 0 else c (a - m)) = (if b < m then 0 else c (b - m))
    rw [if_pos x, if_pos y], fun a b e => by
    show (if m + a < m then 0 else c (m + a - m)) = (if m + b < m then 0 else c (m + b - m))
    rw [if_neg (by omega), if_neg (by omega), show m + a - m = a by omega, show m + b - m = b by omega]; exact hc a b e⟩)
  simp only [if_neg (show ¬ m + i < m by omega), if_neg (show ¬ m + j < m by omega), show m + i - m = i by omega, show m + j - m = j by omega] at this
  exact this
theorem unE_apart {m : Nat} {E1 E2 : Nat → Nat → Prop} (h1 : ∀ a b, E1 a b → a < m ∧ b < m) {i j : Nat} (hi : i < m) : ¬ ConE (unE m E1 E2) i (m + j) := by
  intro h
  have := h (fun z => if z < m then 0 else 1) (unE_inv.2 ⟨fun a b e => by
    obtain ⟨x, y⟩ := h1 a b e
    show (if a < m then 0 else 1) = (if b < m then 0 else 1)
    rw [if_pos x, if_pos y], fun a b e => by
    show (if m + a < m then 0 else 1) = (if m + b < m then 0 else 1)
    rw [if_neg (by omega), if_neg (by omega)]⟩)
  simp only [if_pos hi, if_neg (show ¬ m + j < m by omega)] at this
  exact absurd this (by decide)
theorem cls_un {m n : Nat} {E1 E2 : Nat → Nat → Prop} (h1 : ∀ a b, E1 a b → a < m ∧ b < m) : clsN (unE m E1 E2) (m + n) = clsN E1 m + clsN E2 n := by
  unfold clsN
  rw [cntP_split]
  congr 1
  · refine cntP_congr _ _ _ (fun i hi => ?_)
    rw [Bool.eq_iff_iff, lstB_iff, lstB_iff]
    exact ⟨fun h j hj hc => h j hj ((unE_left h1 hi (by omega)).2 hc), fun h j hj hc => h j hj ((unE_left h1 hi (by omega)).1 hc)⟩
  · refine cntP_congr _ _ _ (fun i hi => ?_)
    rw [Bool.eq_iff_iff, lstB_iff, lstB_iff]
    refine ⟨fun h j hj hc => h (m + j) (by omega) ((unE_right h1).2 hc), fun h j hj hc => ?_⟩
    by_cases e : j < m
    · exact unE_apart h1 e hc.symm
    · obtain ⟨q, rfl⟩ : ∃ q, j = m + q := ⟨j - m, by omega⟩
      exact h q (by omega) ((unE_right h1).1 hc)
theorem addE_inv {E : Nat → Nat → Prop} {x y : Nat} {c : Nat → Nat} : InvE (addE E x y) c ↔ InvE E c ∧ c x = c y := by
  constructor
  · exact fun h => ⟨fun a b e => h _ _ (.inl e), h _ _ (.inr ⟨rfl, rfl⟩)⟩
  · rintro ⟨h1, h2⟩ a b (e | ⟨rfl, rfl⟩)
    · exact h1 _ _ e
    · exact h2
theorem smW_par {s : ByteArray} (hw : WOK s) {i : Nat} (hi : i < s.size) : smW s (par s i) ↔ smW s i := by
  unfold smW; rw [par_par hw hi]; exact ⟨Eq.symm, Eq.symm⟩
theorem gluF_inv {s : ByteArray} (hw : WOK s) {e : Nat} (he : e < 2 * s.size) : gluF s e < 2 * s.size ∧ gluF s (gluF s e) = e ∧ gluF s e ≠ e := by
  refine ⟨gluF_lt hw e he, ?_⟩
  obtain ⟨i, hi, h⟩ : ∃ i, i < s.size ∧ (e = 2 * i ∨ e = 2 * i + 1) := ⟨e / 2, by omega, by omega⟩
  obtain ⟨p1, p2, p3, p4⟩ := par_spec hw hi
  have hpp := par_par hw hi
  have hsp := smW_par hw hi
  by_cases hs : smW s i
  · rcases h with rfl | rfl
    · rw [(glu_at s i).1, if_pos hs, (glu_at s (par s i)).1, if_pos (hsp.2 hs), hpp]; exact ⟨rfl, by omega⟩
    · rw [(glu_at s i).2, if_pos hs, (glu_at s (par s i)).2, if_pos (hsp.2 hs), hpp]; exact ⟨rfl, by omega⟩
  · rcases h with rfl | rfl
    · rw [(glu_at s i).1, if_neg hs, (glu_at s (par s i)).2, if_neg (fun k => hs (hsp.1 k)), hpp]; exact ⟨rfl, by omega⟩
    · rw [(glu_at s i).2, if_neg hs, (glu_at s (par s i)).1, if_neg (fun k => hs (hsp.1 k)), hpp]; exact ⟨rfl, by omega⟩
/-- A polygon with an open corner: both of its ends are one corner behind the gluing. -/
theorem open_corner {s : ByteArray} (hw : WOK s) {c : Nat → Nat} (h : ∀ i, i < s.size → (smW s i → c i = c (par s i) ∧ c (i + 1) = c (par s i + 1)) ∧ (¬ smW s i → c i = c (par s i + 1) ∧ c (i + 1) = c (par s i))) : c 0 = c s.size := by
  refine Classical.byContradiction fun hne => ?_
  have hz := hw.size
  obtain ⟨col, ev, od⟩ : ∃ col : Nat → Nat, (∀ q : Nat, col (2 * q) = c q) ∧ (∀ q : Nat, col (2 * q + 1) = c (q + 1)) :=
    ⟨fun z => if z % 2 = 0 then c (z / 2) else c (z / 2 + 1), fun q => by
      show (if (2 * q) % 2 = 0 then c ((2 * q) / 2) else c ((2 * q) / 2 + 1)) = _
      rw [if_pos (by omega), show 2 * q / 2 = q by omega], fun q => by
      show (if (2 * q + 1) % 2 = 0 then c ((2 * q + 1) / 2) else c ((2 * q + 1) / 2 + 1)) = _
      rw [if_neg (by omega), show (2 * q + 1) / 2 = q by omega]⟩
  have hev := even_inv (n := 2 * s.size) (h := gluF s) (fun e he => gluF_inv hw he) (fun e => decide (col e = c 0)) (fun e he => by
    have : col (gluF s e) = col e := by
      obtain ⟨i, hi, k⟩ : ∃ i, i < s.size ∧ (e = 2 * i ∨ e = 2 * i + 1) := ⟨e / 2, by omega, by omega⟩
      by_cases hs : smW s i
      · obtain ⟨a, b⟩ := (h i hi).1 hs
        rcases k with rfl | rfl
        · rw [(glu_at s i).1, if_pos hs, ev, ev, a]
        · rw [(glu_at s i).2, if_pos hs, od, od, b]
      · obtain ⟨a, b⟩ := (h i hi).2 hs
        rcases k with rfl | rfl
        · rw [(glu_at s i).1, if_neg hs, ev, od, a]
        · rw [(glu_at s i).2, if_neg hs, ev, od, b]
    show decide (col (gluF s e) = c 0) = decide (col e = c 0)
    rw [this])
  rw [cntP_double] at hev
  have e1 : cntP (fun i => decide (col (2 * i) = c 0)) s.size = cntP (fun i => decide (c i = c 0)) s.size := cntP_congr _ _ _ (fun i _ => by rw [ev])
  have e2 : cntP (fun i => decide (c i = c 0)) (s.size + 1) = 1 + cntP (fun i => decide (col (2 * i + 1) = c 0)) s.size := cntP_shift _ _ _ (decide_eq_true rfl) (fun i _ => by rw [od])
  have e3 : cntP (fun i => decide (c i = c 0)) (s.size + 1) = cntP (fun i => decide (c i = c 0)) s.size := by
    show cntP (fun i => decide (c i = c 0)) s.size + (if decide (c s.size = c 0) = true then 1 else 0) = _
    rw [decide_eq_false (fun e => hne e.symm)]; simp
  rw [e1] at hev
  omega
def joinS (a b : ByteArray) : ByteArray := namS a 0 ++ namS b (a.size / 2)
def JoinOK (a b : ByteArray) : Prop := WOK a ∧ WOK b ∧ a.size + b.size ≤ 10
theorem joinS_size (a b : ByteArray) : (joinS a b).size = a.size + b.size := by unfold joinS; rw [ByteArray.size_append, namS_size, namS_size]
theorem join_let {a b : ByteArray} (h : JoinOK a b) : (∀ i, i < a.size → wl (joinS a b) i = wl (namS a 0) i ∧ wsm (joinS a b) i = wsm (namS a 0) i) ∧ (∀ i, i < b.size → wl (joinS a b) (a.size + i) = wl (namS b (a.size / 2)) i ∧ wsm (joinS a b) (a.size + i) = wsm (namS b (a.size / 2)) i) := by
  refine ⟨fun i hi => ?_, fun i hi => ?_⟩
  · unfold wl wsm joinS
    rw [bt_append_left _ _ i (by rw [namS_size]; exact hi)]; exact ⟨rfl, rfl⟩
  · have := bt_append_right (namS a 0) (namS b (a.size / 2)) i (by rw [namS_size]; exact hi)
    rw [namS_size] at this
    unfold wl wsm joinS
    rw [this]; exact ⟨rfl, rfl⟩
theorem join_ok {a b : ByteArray} (h : JoinOK a b) : WOK (joinS a b) ∧ ∀ i, i < a.size + b.size → par (joinS a b) i = if i < a.size then par a i else a.size + par b (i - a.size) := by
  obtain ⟨ha, hb, hs⟩ := h
  have za := ha.size
  have zb := hb.size
  have ea := ha.even
  have hn := joinS_size a b
  obtain ⟨la, lb⟩ := join_let ⟨ha, hb, hs⟩
  obtain ⟨na1, na2⟩ := nam_ok ha 0 (by omega)
  obtain ⟨nb1, nb2⟩ := nam_ok hb (a.size / 2) (by omega)
  have va : ∀ i, i < a.size → 0 ≤ wl (joinS a b) i ∧ wl (joinS a b) i < (a.size / 2 : Nat) := by
    intro i hi
    have := nf_first ha hi
    rw [(la i hi).1, (wl_namS ha (q := 0) hi (by omega)).1]; omega
  have vb : ∀ i, i < b.size → ((a.size / 2 : Nat) : Int) ≤ wl (joinS a b) (a.size + i) := by
    intro i hi
    rw [(lb i hi).1, (wl_namS hb (q := a.size / 2) hi (by omega)).1]; omega
  have := WOK.of (t := joinS a b) (by omega) (fun i => if i < a.size then par a i else a.size + par b (i - a.size)) (fun i hi => by
    rw [hn] at hi ⊢
    by_cases e : i < a.size
    · simp only [if_pos e]
      obtain ⟨p1, p2, p3, p4⟩ := par_spec ha e
      obtain ⟨q1, q2, q3, q4⟩ := par_spec na1 (i := i) (by rw [namS_size]; exact e)
      rw [na2 i e] at q1 q3 q4
      rw [namS_size] at q1 q4
      refine ⟨(va i e).1, by omega, p2, by rw [(la _ p1).1, (la i e).1, q3], fun k hk hki hl => ?_⟩
      by_cases ek : k < a.size
      · rw [(la k ek).1, (la i e).1] at hl
        exact q4 k ek hki hl
      · obtain ⟨x, rfl⟩ : ∃ x, k = a.size + x := ⟨k - a.size, by omega⟩
        have h1 := vb x (by omega)
        have h2 := (va i e).2
        omega
    · obtain ⟨x, rfl⟩ : ∃ x, i = a.size + x := ⟨i - a.size, by omega⟩
      have hx : x < b.size := by omega
      simp only [if_neg e, show a.size + x - a.size = x by omega]
      obtain ⟨p1, p2, p3, p4⟩ := par_spec hb hx
      obtain ⟨q1, q2, q3, q4⟩ := par_spec nb1 (i := x) (by rw [namS_size]; exact hx)
      rw [nb2 x hx] at q1 q3 q4
      rw [namS_size] at q1 q4
      refine ⟨by have := vb x hx; omega, by omega, by omega, by rw [(lb _ p1).1, (lb x hx).1, q3], fun k hk hki hl => ?_⟩
      by_cases ek : k < a.size
      · have h1 := vb x hx
        have h2 := (va k ek).2
        omega
      · obtain ⟨y, rfl⟩ : ∃ y, k = a.size + y := ⟨k - a.size, by omega⟩
        rw [(lb y (by omega)).1, (lb x hx).1] at hl
        rw [q4 y (by omega) (by omega) hl])
  rw [hn] at this
  exact this
theorem join_sm {a b : ByteArray} (h : JoinOK a b) : (∀ i, i < a.size → (smW (joinS a b) i ↔ smW a i)) ∧ (∀ i, i < b.size → (smW (joinS a b) (a.size + i) ↔ smW b i)) := by
  obtain ⟨la, lb⟩ := join_let h
  obtain ⟨j1, j2⟩ := join_ok h
  obtain ⟨ha, hb, hs⟩ := h
  have ea := ha.even
  refine ⟨fun i hi => ?_, fun i hi => ?_⟩
  · have p1 := (par_spec ha hi).1
    unfold smW
    rw [j2 i (by omega), if_pos hi, (la i hi).2, (la _ p1).2]
    exact nam_sm ha 0 (by omega) hi
  · have p1 := (par_spec hb hi).1
    unfold smW
    rw [j2 (a.size + i) (by omega), if_neg (by omega), show a.size + i - a.size = i by omega, (lb i hi).2, (lb _ p1).2]
    exact nam_sm hb (a.size / 2) (by omega) hi
theorem EGd_lt {n : Nat} {p : Nat → Nat} {S : Nat → Prop} (hp : ∀ i, i < n → p i < n) : ∀ a b, EGd n p S a b → a < n ∧ b < n := by
  rintro a b ⟨i, hi, ⟨hs, (⟨rfl, rfl⟩ | ⟨rfl, rfl⟩)⟩ | ⟨hs, (⟨rfl, rfl⟩ | ⟨rfl, rfl⟩)⟩⟩
  · exact ⟨hi, hp _ hi⟩
  · exact ⟨sucN_lt hi, sucN_lt (hp _ hi)⟩
  · exact ⟨hi, sucN_lt (hp _ hi)⟩
  · exact ⟨sucN_lt hi, hp _ hi⟩
theorem corners_join {a b : ByteArray} (h : JoinOK a b) : corners (joinS a b) + 1 = corners a + corners b := by
  obtain ⟨j1, j2⟩ := join_ok h
  obtain ⟨sa, sb⟩ := join_sm h
  obtain ⟨ha, hb, hs⟩ := h
  have za := ha.size
  have zb := hb.size
  have hn := joinS_size a b
  have hE1 : ∀ x y, EG a x y → x < a.size ∧ y < a.size := EGd_lt (fun i hi => (par_spec ha hi).1)
  have key : ∀ c : Nat → Nat, InvE (EG (joinS a b)) c ↔ InvE (addE (unE a.size (EG a) (EG b)) 0 a.size) c := by
    intro c
    have ka : ∀ i, i < a.size → c 0 = c a.size → c (sucN (a.size + b.size) i) = c (sucN a.size i) := by
      intro i hi h0
      unfold sucN
      rw [if_neg (by omega)]
      by_cases e : i + 1 = a.size
      · rw [if_pos e, e, h0]
      · rw [if_neg e]
    have kb : ∀ i, i < b.size → c 0 = c a.size → c (sucN (a.size + b.size) (a.size + i)) = c (a.size + sucN b.size i) := by
      intro i hi h0
      unfold sucN
      by_cases e : i + 1 = b.size
      · rw [if_pos (by omega), if_pos e, h0]; rfl
      · rw [if_neg (by omega), if_neg e]; rfl
    have kc : ∀ i, i < a.size → sucN (a.size + b.size) i = i + 1 := by
      intro i hi; unfold sucN; rw [if_neg (by omega)]
    rw [addE_inv, unE_inv, EGd_inv, EGd_inv, EGd_inv, hn]
    constructor
    · intro hc
      have h0 : c 0 = c a.size := open_corner ha (fun i hi => by
        have p1 := (par_spec ha hi).1
        have := hc i (by omega)
        rw [j2 i (by omega), if_pos hi, kc i hi, kc _ p1, sa i hi] at this
        exact this)
      refine ⟨⟨fun i hi => ?_, fun i hi => ?_⟩, h0⟩
      · have p1 := (par_spec ha hi).1
        have := hc i (by omega)
        rw [j2 i (by omega), if_pos hi, sa i hi, ka i hi h0, ka _ p1 h0] at this
        exact this
      · have p1 := (par_spec hb hi).1
        have := hc (a.size + i) (by omega)
        rw [j2 (a.size + i) (by omega), if_neg (by omega), show a.size + i - a.size = i by omega, sb i hi, kb i hi h0, kb _ p1 h0] at this
        exact this
    · rintro ⟨⟨h1, h2⟩, h0⟩ i hi
      by_cases e : i < a.size
      · have p1 := (par_spec ha e).1
        rw [j2 i hi, if_pos e, sa i e, ka i e h0, ka _ p1 h0]
        exact h1 i e
      · obtain ⟨x, rfl⟩ : ∃ x, i = a.size + x := ⟨i - a.size, by omega⟩
        have hx : x < b.size := by omega
        have p1 := (par_spec hb hx).1
        rw [j2 _ hi, if_neg e, show a.size + x - a.size = x by omega, sb x hx, kb x hx h0, kb _ p1 h0]
        exact h2 x hx
  rw [corners_gap j1, corners_gap ha, corners_gap hb, hn, ← cls_un (n := b.size) (E2 := EG b) hE1]
  rw [clsN_congr (E' := addE (unE a.size (EG a) (EG b)) 0 a.size) (fun i j => ⟨fun hc c k => hc c ((key c).2 k), fun hc c k => hc c ((key c).1 k)⟩)]
  exact ((cls_add (E := unE a.size (EG a) (EG b)) (x := 0) (y := a.size) (n := a.size + b.size) (by omega) (by omega)).2 (unE_apart (j := 0) hE1 (by omega))).symm
theorem wsd_join {a b : ByteArray} (h : JoinOK a b) : WSD (joinS a b) ↔ WSD a ∧ WSD b := by
  obtain ⟨sa, sb⟩ := join_sm h
  have j1 := (join_ok h).1
  have hn := joinS_size a b
  constructor
  · exact fun k => ⟨⟨h.1, fun i hi e => k.2 i (by omega) ((sa i hi).2 e)⟩, ⟨h.2.1, fun i hi e => k.2 (a.size + i) (by omega) ((sb i hi).2 e)⟩⟩
  · rintro ⟨k1, k2⟩
    refine ⟨j1, fun i hi e => ?_⟩
    rw [hn] at hi
    by_cases q : i < a.size
    · exact k1.2 i q ((sa i q).1 e)
    · obtain ⟨x, rfl⟩ : ∃ x, i = a.size + x := ⟨i - a.size, by omega⟩
      exact k2.2 x (by omega) ((sb x (by omega)).1 e)
theorem nn_join {a b : ByteArray} (h : JoinOK a b) : nnW (joinS a b) = nnW a + nnW b := by
  have h1 := corners_join h
  have h2 := joinS_size a b
  have h3 := euler_le h.1
  have h4 := euler_le h.2.1
  have h5 := h.1.even
  have h6 := h.2.1.even
  unfold nnW numW; omega
theorem cls_told {s t : ByteArray} (hs : WOK s) (ht : WOK t) (h : clsS s = clsS t) : (WSD s ↔ WSD t) ∧ nnW s = nnW t := by
  have b0 : ∀ (x : UInt8) (y : Int), bt ((⟨#[x]⟩ : ByteArray) ++ strOfNums [y]) ((0 : Nat) : Int) = x.toNat := by
    intro x y
    rw [bt_append_left (⟨#[x]⟩ : ByteArray) (strOfNums [y]) 0 Nat.zero_lt_one, bt_nat (⟨#[x]⟩ : ByteArray) 0 Nat.zero_lt_one]; rfl
  have b1 : ∀ (x : UInt8) (y : Int), 0 ≤ y → y ≤ 255 → bt ((⟨#[x]⟩ : ByteArray) ++ strOfNums [y]) ((1 : Nat) : Int) = y := by
    intro x y h0 h1
    have := bt_append_right (⟨#[x]⟩ : ByteArray) (strOfNums [y]) 0 (by rw [strOfNums_size]; simp)
    rw [show (⟨#[x]⟩ : ByteArray).size + 0 = 1 from rfl] at this
    rw [this, bt_strOfNums [y] 0 (by simp) h0 h1]; rfl
  have hns := nnW_lt hs
  have hnt := nnW_lt ht
  have hb := congrArg (fun x => bt x ((0 : Nat) : Int)) h
  have hc := congrArg (fun x => bt x ((1 : Nat) : Int)) h
  by_cases e : WSD s
  · have f : WSD t := by
      refine Classical.byContradiction fun f => ?_
      unfold clsS at hb
      rw [if_pos e, if_neg f, b0, b0] at hb
      exact absurd hb (by decide)
    unfold clsS at hc
    rw [if_pos e, if_pos f, b1 _ _ (by omega) (by omega), b1 _ _ (by omega) (by omega)] at hc
    have h1 := nnW_sided e
    have h2 := nnW_sided f
    exact ⟨⟨fun _ => f, fun _ => e⟩, by omega⟩
  · have f : ¬ WSD t := by
      intro f
      unfold clsS at hb
      rw [if_neg e, if_pos f, b0, b0] at hb
      exact absurd hb (by decide)
    unfold clsS at hc
    rw [if_neg e, if_neg f, b1 _ _ (by omega) (by omega), b1 _ _ (by omega) (by omega)] at hc
    exact ⟨⟨fun k => absurd k e, fun k => absurd k f⟩, by omega⟩
theorem cls_join {a b a' b' : ByteArray} (h : JoinOK a b) (h' : JoinOK a' b') (ha : clsS a = clsS a') (hb : clsS b = clsS b') : clsS (joinS a b) = clsS (joinS a' b') := by
  obtain ⟨a1, a2⟩ := cls_told h.1 h'.1 ha
  obtain ⟨b1, b2⟩ := cls_told h.2.1 h'.2.1 hb
  exact clsS_of (by rw [wsd_join h, wsd_join h', a1, b1]) (by rw [nn_join h, nn_join h', a2, b2])
theorem cls_join_swap {a b : ByteArray} (h : JoinOK a b) (h' : JoinOK b a) : clsS (joinS b a) = clsS (joinS a b) :=
  clsS_of (by rw [wsd_join h, wsd_join h', and_comm]) (by rw [nn_join h, nn_join h', Nat.add_comm])
theorem cls_join_hand {a : ByteArray} (h : JoinOK a (handS 0)) : clsS (joinS a (handS 0)) = clsS a :=
  clsS_of (by rw [wsd_join h]; exact ⟨fun k => k.1, fun k => ⟨k, hand_sided (.inl rfl)⟩⟩) (by rw [nn_join h, hand_nn (.inl rfl)]; rfl)
theorem norm_cls {a b : ByteArray} (ha : WOK a) (hb : WOK b) (h : clsS a = clsS b) : normS a = normS b := by
  obtain ⟨h1, h2⟩ := cls_told ha hb h
  unfold normS
  by_cases e : WSD a
  · rw [if_pos e, if_pos (h1.1 e), h2]
  · rw [if_neg e, if_neg (fun k => e (h1.2 k)), h2]

end Go.Proofs.YtpfnchjbbagmdaaDoor.M
