import Derived.Test.YtjebcgbmlbemcaaGreatDoorMSK
set_option linter.unusedVariables false
set_option linter.unusedSimpArgs false
namespace Go.Proofs.YtjebcgbmlbemcaaGreatDoor.M
open Go.RowKit Go.Proofs.YtjebcgbmlbemcaaGreatDoorW.PrintWords

/-! ### Types: the lengths of the cycles, the greatest ones first -/
def lensI (c : List (List Int)) : List Int := c.map (fun x => (x.length : Int))
def downI (l : List Int) : List Int := (l.mergeSort fun x y => decide (x ≤ y)).reverse
theorem downI_perm (l : List Int) : (downI l).Perm l := (List.reverse_perm _).trans (List.mergeSort_perm _ _)
theorem downI_desc (l : List Int) : (downI l).Pairwise (fun a b => b ≤ a) := by
  unfold downI
  rw [List.pairwise_reverse]
  refine (List.pairwise_mergeSort (fun a b c h1 h2 => ?_) (fun a b => ?_) l).imp (fun {a b} h => of_decide_eq_true h)
  · have := of_decide_eq_true h1; have := of_decide_eq_true h2; exact decide_eq_true (by omega)
  · by_cases h : a ≤ b
    · simp [h]
    · have : b ≤ a := by omega
      simp [this]
theorem downI_length (l : List Int) : (downI l).length = l.length := (downI_perm l).length_eq
noncomputable def typL (p : List Int) : List Int := downI (lensI (cycL p.length (fn p)))
theorem desc_iff : ∀ {L : List Int}, L.Pairwise (fun a b => b ≤ a) → ∀ {i : Nat} (hi : i < L.length) (x : Int), x ≤ L[i] ↔ i < L.countP (fun y => decide (x ≤ y))
  | [], _, i, hi, _ => absurd hi (Nat.not_lt_zero i)
  | a :: L, h, i, hi, x => by
    obtain ⟨h1, h2⟩ := List.pairwise_cons.1 h
    by_cases q : x ≤ a
    · rw [List.countP_cons_of_pos (by simpa using q)]
      cases i with
      | zero => exact ⟨fun _ => by omega, fun _ => q⟩
      | succ i =>
        have := desc_iff h2 (show i < L.length by simpa using hi) x
        rw [List.getElem_cons_succ, this]; omega
    · have z : (a :: L).countP (fun y => decide (x ≤ y)) = 0 := by
        rw [List.countP_eq_zero]
        intro y hy
        rcases List.mem_cons.1 hy with rfl | hy
        · simpa using q
        · have := h1 y hy
          simp only [decide_eq_true_eq]; omega
      rw [z]
      refine ⟨fun w => ?_, fun w => absurd w (by omega)⟩
      have hm : (a :: L)[i] ∈ a :: L := List.getElem_mem _
      rcases List.mem_cons.1 hm with e | hm
      · rw [e] at w; exact absurd w q
      · have := h1 _ hm; omega
/-- A row of which each number stands k times in another one: the other one's places lie k by k. -/
theorem desc_rep {L M : List Int} (hL : L.Pairwise (fun a b => b ≤ a)) (hM : M.Pairwise (fun a b => b ≤ a)) {k : Nat} (hk : 1 ≤ k) (hl : M.length = k * L.length)
    (hc : ∀ x : Int, M.countP (fun y => decide (x ≤ y)) = k * L.countP (fun y => decide (x ≤ y))) {i : Nat} (hi : i < M.length) : ∃ h : i / k < L.length, M[i] = L[i / k] := by
  have hq : i / k < L.length := (Nat.div_lt_iff_lt_mul (by omega)).2 (by rw [Nat.mul_comm]; omega)
  refine ⟨hq, ?_⟩
  have key : ∀ x : Int, x ≤ M[i] ↔ x ≤ L[i / k] := fun x => by
    rw [desc_iff hM hi, desc_iff hL hq, hc, Nat.div_lt_iff_lt_mul (by omega), Nat.mul_comm]
  have h1 := (key M[i]).1 (Int.le_refl _)
  have h2 := (key L[i / k]).2 (Int.le_refl _)
  omega
theorem countP_range (p : Nat → Bool) (n : Nat) : (List.range n).countP p = cntP p n := by rw [List.countP_eq_length_filter, filter_cntP]
theorem countP_lens (p : Int → Bool) (n : Nat) (f : Nat → Nat) : (lensI (cycL n f)).countP p = cntP (fun r => lstB (EF n f) r && p (per f r : Int)) n := by
  unfold lensI cycL cycUp
  rw [List.countP_map, List.countP_map, List.countP_filter, countP_range]
  refine cntP_congr _ _ _ (fun r _ => ?_)
  show (p ((cycOf f r).length : Int) && lstB (EF n f) r) = _
  rw [cycOf_length, Bool.and_comm]
theorem countP_typ (p : Int → Bool) (l : List Int) : (typL l).countP p = cntP (fun r => lstB (EF l.length (fn l)) r && p (per (fn l) r : Int)) l.length := by
  unfold typL
  rw [(downI_perm _).countP_eq, countP_lens]
theorem typL_length (l : List Int) : (typL l).length = cyc l.length (fn l) := by
  unfold typL lensI
  rw [downI_length, List.length_map, cycL_length]
theorem typL_desc (l : List Int) : (typL l).Pairwise (fun a b => b ≤ a) := downI_desc _
theorem per_eq {n : Nat} {f g : Nat → Nat} (h : PermN n f g) {x : Nat} (hx : x < n) {p : Nat} (h1 : 1 ≤ p) (h2 : itr f p x = x) (h3 : ∀ k, 1 ≤ k → k < p → itr f k x ≠ x) : per f x = p := by
  obtain ⟨a1, a2, a3, a4⟩ := per_spec h hx
  rcases Nat.lt_trichotomy (per f x) p with q | q | q
  · exact absurd a3 (h3 _ a1 q)
  · exact q
  · exact absurd h2 (a4 _ h1 q)
/-- Blocks of k points each, alike: k times as many. -/
theorem cntP_blocks {κ : Nat} (P Q : Nat → Bool) : ∀ {n : Nat}, (∀ d, d < n → ∀ s, s < κ → P (κ * d + s) = Q d) → cntP P (κ * n) = κ * cntP Q n
  | 0, _ => rfl
  | n + 1, h => by
    have ih := cntP_blocks P Q (n := n) (fun d hd => h d (by omega))
    have blk : ∀ s, s ≤ κ → cntP P (κ * n + s) = cntP P (κ * n) + (if Q n = true then s else 0) := by
      intro s
      induction s with
      | zero => intro _; split <;> rfl
      | succ s ihs =>
        intro hs
        show cntP P (κ * n + s + 1) = _
        simp only [cntP]
        rw [ihs (by omega), h n (by omega) s (by omega)]
        split <;> omega
    have := blk κ (Nat.le_refl _)
    rw [show κ * (n + 1) = κ * n + κ from Nat.mul_succ κ n, this, ih]
    simp only [cntP]
    rw [Nat.mul_add]
    split <;> simp
theorem cov_type {n κ : Nat} {t f : List Int} {v : List (List Int)} (h : VN n κ t f v) (hT : PermL (κ * n) (covT n κ t (κ * n))) (p : Int → Bool) : (typL (covT n κ t (κ * n))).countP p = κ * (typL t).countP p := by
  obtain ⟨c1, c2, c3⟩ := cov_perm h
  have hk : Skew n κ (fn t) (bck n (fn t)) (fun _ s => s) (fn (covT n κ t (κ * n))) (bck (κ * n) (fn (covT n κ t (κ * n)))) := ⟨h.tp.perm, hT.perm, h.k0, fun _ _ _ hs => hs, fun d hd s hs => (c3 d s hd hs).1⟩
  rw [countP_typ, countP_typ, covT_length, h.tp.1.1]
  generalize fn (covT n κ t (κ * n)) = Φ at *
  generalize bck (κ * n) Φ = Φi at *
  have hkk := h.k0
  clear c3 c1 c2
  have idS : ∀ r i s, skP (fn t) (fun _ s => s) r i s = s := by
    intro r i s
    induction i with
    | zero => rfl
    | succ i ih => exact ih
  refine cntP_blocks _ _ (fun d hd s hs => ?_)
  have hit : ∀ i, itr Φ i (κ * d + s) = κ * itr (fn t) i d + s := fun i => by rw [hk.itr hd hs i, idS]
  have hper : per Φ (κ * d + s) = per (fn t) d := by
    obtain ⟨a1, a2, a3, a4⟩ := per_spec hk.base hd
    refine per_eq hk.top (sheet_lt hd hs) a1 (by rw [hit, a3]) (fun k k1 k2 e => ?_)
    rw [hit] at e
    have := congrArg (fun z => z / κ) e
    simp only [(sheet_num hs).1] at this
    exact a4 k k1 k2 this
  have hlst : lstB (EF (κ * n) Φ) (κ * d + s) = lstB (EF n (fn t)) d := by
    rw [Bool.eq_iff_iff, lstB_iff, lstB_iff]
    constructor
    · intro hl j hj hc
      refine hl (κ * j + s) ?_ (fun c hcI => ?_)
      · have := Nat.mul_le_mul_left κ (show j + 1 ≤ d by omega)
        rw [Nat.mul_succ] at this; omega
      · refine hc (fun z => c (κ * z + s)) (fun a b hab => ?_)
        obtain ⟨ha, rfl⟩ := hab
        refine hcI _ _ ⟨sheet_lt ha hs, ?_⟩
        exact (hk.eq a ha s hs).symm
    · intro hl j hj hc
      obtain ⟨d1, d2, d3⟩ := sheet_of (n := n) hkk (show j < κ * n by have := sheet_lt hd hs; omega)
      obtain ⟨p1, p2, p3, p4⟩ := per_spec hk.top (sheet_lt hd hs)
      obtain ⟨m, hm, e⟩ := con_itr hk.top (sheet_lt hd hs) p1 p3 hc
      rw [hit] at e
      have e1 : j / κ = itr (fn t) m d := by rw [e]; exact (sheet_num hs).1
      refine hl (j / κ) ?_ (by rw [e1]; exact itr_con hk.base hd m)
      rw [← e1] at e
      refine Classical.byContradiction fun w => ?_
      have := Nat.mul_le_mul_left κ (show d ≤ j / κ by omega)
      omega
  rw [hper, hlst]
/-! ### Points by the lengths of their cycles -/
theorem per_con {n : Nat} {f g : Nat → Nat} (h : PermN n f g) {x : Nat} (hx : x < n) : ∀ m, per f (itr f m x) = per f x := by
  intro m
  obtain ⟨a1, a2, a3, a4⟩ := per_spec h hx
  refine per_eq h (itr_lt h hx m) a1 ?_ (fun k k1 k2 e => ?_)
  · rw [← itr_add, Nat.add_comm, itr_add, a3]
  · rw [← itr_add] at e
    refine a4 k k1 k2 (itr_cancel h hx m k ?_)
    rw [Nat.add_comm m k]; exact e.symm
theorem con_lt {n : Nat} {f g : Nat → Nat} (h : PermN n f g) {r s : Nat} (hr : r < n) (hc : ConE (EF n f) r s) : s < n ∧ per f s = per f r := by
  obtain ⟨p1, p2, p3, p4⟩ := per_spec h hr
  obtain ⟨m, hm, rfl⟩ := con_itr h hr p1 p3 hc
  exact ⟨itr_lt h hr m, per_con h hr m⟩
theorem cyc_size {n : Nat} {f g : Nat → Nat} (h : PermN n f g) {r : Nat} (hr : r < n) : cntP (fun s => dec (ConE (EF n f) r s)) n = per f r := by
  obtain ⟨p1, p2, p3, p4⟩ := per_spec h hr
  rw [← filter_cntP]
  have hn : ((List.range (per f r)).map (fun k => itr f k r)).Nodup := by
    refine List.pairwise_map.2 ((List.pairwise_lt_range).imp_of_mem (fun {a b} ha hb hab e => ?_))
    have hb' := List.mem_range.1 hb
    exact p4 (b - a) (by omega) (by omega) (itr_cancel h hr a (b - a) (by rw [show a + (b - a) = b by omega]; exact e))
  have hp : ((List.range n).filter (fun s => dec (ConE (EF n f) r s))).Perm ((List.range (per f r)).map (fun k => itr f k r)) := by
    refine (List.perm_ext_iff_of_nodup (List.nodup_range.filter _) hn).2 (fun x => ?_)
    rw [List.mem_filter, List.mem_map]
    constructor
    · rintro ⟨_, hc⟩
      obtain ⟨m, hm, e⟩ := con_itr h hr p1 p3 (dec_iff.1 hc)
      exact ⟨m, List.mem_range.2 hm, e.symm⟩
    · rintro ⟨m, hm, rfl⟩
      exact ⟨List.mem_range.2 (itr_lt h hr m), dec_t (itr_con h hr m)⟩
  rw [hp.length_eq, List.length_map, List.length_range]
theorem repN_facts {n : Nat} {f : Nat → Nat} {s : Nat} (hs : s < n) : repN n f s < n ∧ lstB (EF n f) (repN n f s) = true ∧ ConE (EF n f) (repN n f s) s := by
  obtain ⟨h1, h2, h3⟩ := repN_spec n f s
  exact ⟨by omega, repN_least n f s, h1.symm⟩
/-- A sum over all points, of what hangs on the length of the point's cycle. -/
theorem sum_cyc {n : Nat} {f g : Nat → Nat} (h : PermN n f g) (w : Nat → Nat) : sumN (fun s => w (per f s)) n = sumN (fun r => if lstB (EF n f) r = true then per f r * w (per f r) else 0) n := by
  have e1 : sumN (fun s => w (per f s)) n = sumN (fun s => sumN (fun r => if r = repN n f s then w (per f r) else 0) n) n := sumN_congr (fun s hs => by
    obtain ⟨r1, r2, r3⟩ := repN_facts (f := f) hs
    rw [sumN_single (fun r => w (per f r)) (repN n f s) n, if_pos r1, (con_lt h r1 r3).2])
  rw [e1, sumN_swap]
  refine sumN_congr (fun r hr => ?_)
  obtain ⟨p1, p2, p3, p4⟩ := per_spec h hr
  by_cases hl : lstB (EF n f) r = true
  · rw [if_pos hl]
    have e2 : sumN (fun s => if r = repN n f s then w (per f r) else 0) n = sumN (fun s => (if dec (ConE (EF n f) r s) = true then 1 else 0) * w (per f r)) n := sumN_congr (fun s hs => by
      obtain ⟨r1, r2, r3⟩ := repN_facts (f := f) hs
      by_cases q : ConE (EF n f) r s
      · rw [if_pos (dec_t q), Nat.one_mul, if_pos]
        rw [← repN_self hl]; exact (repN_iff _ _ _ _).2 q
      · rw [if_neg (fun z => q (dec_iff.1 z)), Nat.zero_mul, if_neg]
        intro e; exact q (e ▸ r3))
    rw [e2]
    have mulR : ∀ (q : Nat → Nat) (c m : Nat), sumN (fun s => q s * c) m = sumN q m * c := by
      intro q c m
      induction m with
      | zero => exact (Nat.zero_mul _).symm
      | succ m ih => simp only [sumN]; rw [ih, Nat.add_mul]
    rw [mulR, ← cntP_sum, cyc_size h hr]
  · rw [if_neg hl]
    have e2 : sumN (fun s => if r = repN n f s then w (per f r) else 0) n = sumN (fun _ => 0) n := sumN_congr (fun s hs => by
      obtain ⟨r1, r2, r3⟩ := repN_facts (f := f) hs
      rw [if_neg (fun e : r = repN n f s => hl (by rw [e]; exact r2))])
    rw [e2, sumN_zero]
/-- How many points lie on cycles of one length. -/
theorem cnt_len {n : Nat} {f g : Nat → Nat} (h : PermN n f g) (c : Nat) : cntP (fun s => decide (per f s = c)) n = c * cntP (fun r => lstB (EF n f) r && decide (per f r = c)) n := by
  have e := sum_cyc h (fun x => if x = c then 1 else 0)
  rw [cntP_sum, cntP_sum]
  have e1 : sumN (fun s => if decide (per f s = c) = true then 1 else 0) n = sumN (fun s => (fun x => if x = c then 1 else 0) (per f s)) n := sumN_congr (fun s _ => by simp)
  rw [e1, e]
  have mulL' : ∀ (q : Nat → Nat) (m : Nat), sumN (fun s => c * q s) m = c * sumN q m := by
    intro q m
    induction m with
    | zero => rfl
    | succ m ih => simp only [sumN]; rw [ih, Nat.mul_add]
  rw [← mulL']
  refine sumN_congr (fun r _ => ?_)
  by_cases a : lstB (EF n f) r = true <;> by_cases b : per f r = c <;> simp [a, b]
def sumI : List Int → Int
  | [] => 0
  | a :: l => a + sumI l
theorem sumI_perm {l m : List Int} (h : l.Perm m) : sumI l = sumI m := by
  induction h with
  | nil => rfl
  | cons a _ ih => simp only [sumI]; omega
  | swap a b l => simp only [sumI]; omega
  | trans _ _ h1 h2 => exact h1.trans h2
theorem sumI_append (l m : List Int) : sumI (l ++ m) = sumI l + sumI m := by
  induction l with
  | nil => simp [sumI]
  | cons a l ih => simp only [List.cons_append, sumI]; omega
theorem sumI_take {l : List Int} {i : Nat} (h : i < l.length) : sumI (l.take (i + 1)) = sumI (l.take i) + rd l (i : Int) := by
  rw [List.take_succ_eq_append_getElem h, sumI_append, rd_nat _ _ h]; simp [sumI]
theorem typ_sum {l : List Int} (h : PermL l.length l) : sumI (typL l) = l.length := by
  unfold typL lensI
  rw [sumI_perm (downI_perm _)]
  have key : ∀ m, sumI ((cycUp l.length (fn l) m).map (fun x => (x.length : Int))) = (sumN (fun r => if lstB (EF l.length (fn l)) r = true then per (fn l) r * 1 else 0) m : Nat) := by
    intro m
    induction m with
    | zero => rfl
    | succ m ih =>
      simp only [sumN]
      cases q : lstB (EF l.length (fn l)) m with
      | true => rw [cycUp_pos q, List.map_append, sumI_append, ih]; simp [sumI, cycOf_length]
      | false => rw [cycUp_neg q, ih]; simp
  show sumI ((cycUp l.length (fn l) l.length).map _) = _
  rw [key, ← sum_cyc h.perm (fun _ => 1), sumN_const]; simp

end Go.Proofs.YtjebcgbmlbemcaaGreatDoor.M
