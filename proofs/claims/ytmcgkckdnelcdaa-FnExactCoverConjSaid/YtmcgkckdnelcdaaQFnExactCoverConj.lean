import Derived.Test.YtmcgkckdnelcdaaVMore
set_option linter.unusedVariables false
set_option linter.unusedSimpArgs false
namespace Go.Proofs.Ytmcgkckdnelcdaa.M
open Go.RowKit Go.Proofs.YtmcgkckdnelcdaaW.PrintWords

theorem Ev.ite {α : Type} {c : Prop} [Decidable c] {A B : Nat → Option α} {r : α} (hp : c → Ev A r) (hn : ¬ c → Ev B r) : Ev (fun k => if c then A k else B k) r := by
  by_cases h : c
  · simp only [if_pos h]; exact hp h
  · simp only [if_neg h]; exact hn h
theorem Ev.pos {α : Type} {c : Prop} [Decidable c] {A B : Nat → Option α} {r : α} (h : c) (hp : Ev A r) : Ev (fun k => if c then A k else B k) r := Ev.ite (fun _ => hp) (fun n => absurd h n)
theorem Ev.neg {α : Type} {c : Prop} [Decidable c] {A B : Nat → Option α} {r : α} (h : ¬ c) (hn : Ev B r) : Ev (fun k => if c then A k else B k) r := Ev.ite (fun p => absurd p h) (fun _ => hn)
theorem Ev.const {α : Type} {x : Option α} {r : α} (h : x = some r) : Ev (fun _ => x) r := ⟨0, fun _ _ => h⟩
theorem Ev.bindc {α β : Type} {x : Option α} {f : Nat → α → Option β} {a : α} {r : β} (h : x = some a) (k : Ev (fun n => f n a) r) : Ev (fun n => x.bind (f n)) r := Ev.bind (Ev.const h) k
theorem wrap64_id {x : Int} (h0 : -9223372036854775808 ≤ x) (h1 : x ≤ 9223372036854775807) : wrap64 x = x := by unfold wrap64; omega
def slet (x : Int) : Int := if x ≥ 97 ∧ x < 102 then x - 97 else if x ≥ 65 ∧ x < 70 then x - 65 else -1
theorem slet_range (x : Int) : -1 ≤ slet x ∧ slet x < 5 := by unfold slet; split <;> (try split) <;> omega
def wl (s : ByteArray) (i : Nat) : Int := slet (bt s (i : Int))
def wcnt (s : ByteArray) (c : Int) : Nat → Nat
  | 0 => 0
  | k + 1 => wcnt s c k + (if wl s k = c then 1 else 0)
def WOK (s : ByteArray) : Prop := 0 < s.size ∧ ∀ i, i < s.size → 0 ≤ wl s i ∧ wcnt s (wl s i) s.size = 2
instance (s : ByteArray) : Decidable (WOK s) := by unfold WOK; infer_instance
theorem wcnt_le (s : ByteArray) (c : Int) : ∀ k, wcnt s c k ≤ k
  | 0 => Nat.le_refl _
  | k + 1 => by
    have := wcnt_le s c k
    simp only [wcnt]; split <;> omega
theorem wcnt_sum (s : ByteArray) : ∀ k, (∀ i, i < k → 0 ≤ wl s i) → wcnt s 0 k + wcnt s 1 k + wcnt s 2 k + wcnt s 3 k + wcnt s 4 k = k := by
  intro k
  induction k with
  | zero => intro _; rfl
  | succ k ih =>
    intro h
    have := ih (fun i hi => h i (by omega))
    have hr := slet_range (bt s (k : Int))
    have h0 := h k (by omega)
    have hc : wl s k = 0 ∨ wl s k = 1 ∨ wl s k = 2 ∨ wl s k = 3 ∨ wl s k = 4 := by unfold wl at *; omega
    simp only [wcnt]
    rcases hc with e | e | e | e | e <;> rw [e] <;> simp <;> omega
theorem WOK.size {s : ByteArray} (h : WOK s) : 2 ≤ s.size ∧ s.size ≤ 10 := by
  have hsum := wcnt_sum s s.size (fun i hi => (h.2 i hi).1)
  have hp := h.1
  have hc : ∀ c, wcnt s c s.size ≤ 2 := by
    intro c
    by_cases hz : wcnt s c s.size = 0
    · omega
    · obtain ⟨i, hi, hl⟩ : ∃ i, i < s.size ∧ wl s i = c := by
        refine Classical.byContradiction fun hno => hz ?_
        have : ∀ k, k ≤ s.size → wcnt s c k = 0 := by
          intro k
          induction k with
          | zero => intro _; rfl
          | succ k ih => intro hk; simp only [wcnt]; rw [ih (by omega), if_neg (fun e => hno ⟨k, by omega, e⟩)]
        exact this s.size (Nat.le_refl _)
      rw [← hl]; exact Nat.le_of_eq (h.2 i hi).2
  have c0 := hc 0
  have c1 := hc 1
  have c2 := hc 2
  have c3 := hc 3
  have c4 := hc 4
  have e := (h.2 0 hp).2
  have := wcnt_le s (wl s 0) s.size
  omega
theorem rd_nat (l : List Int) (i : Nat) (h : i < l.length) : rd l (i : Int) = l[i] := by
  simp [rd, List.getD_eq_getElem?_getD, h]
theorem rd_get? (l : List Int) (i : Nat) (x : Int) (h : l[i]? = some x) : rd l (i : Int) = x := by
  simp [rd, List.getD_eq_getElem?_getD, h]
theorem toNat_nat (i : Nat) : ((i : Int) : Int).toNat = i := rfl
theorem list_ext_rd {l m : List Int} (h : l.length = m.length) (he : ∀ i : Nat, i < l.length → rd l (i : Int) = rd m (i : Int)) : l = m := by
  refine List.ext_getElem h (fun i h1 h2 => ?_)
  have := he i h1
  rwa [rd_nat l i h1, rd_nat m i h2] at this
def marks (a : Int) (n : Nat) : List Int := (List.range n).map (fun i : Nat => a + (i : Int))
theorem marks_length (a : Int) (n : Nat) : (marks a n).length = n := by simp [marks]
theorem rd_marks (a : Int) (n i : Nat) (h : i < n) : rd (marks a n) (i : Int) = a + (i : Int) := by
  rw [rd_nat _ _ (by rw [marks_length]; exact h)]; simp [marks]
def fn (l : List Int) (i : Nat) : Nat := (rd l (i : Int)).toNat
def Pts (n : Nat) (l : List Int) : Prop := l.length = n ∧ ∀ i, i < n → 0 ≤ rd l (i : Int) ∧ rd l (i : Int) < n
theorem Pts.fn {n : Nat} {l : List Int} (h : Pts n l) {i : Nat} (hi : i < n) : rd l (i : Int) = (fn l i : Int) ∧ fn l i < n := by
  have := h.2 i hi
  unfold M.fn
  omega
def Inv2 (n : Nat) (a b : List Int) (c : Nat → Int) : Prop := ∀ i, i < n → c (fn a i) = c i ∧ c (fn b i) = c i
def Con (n : Nat) (a b : List Int) (i j : Nat) : Prop := ∀ c, Inv2 n a b c → c i = c j
theorem Con.refl {n : Nat} {a b : List Int} (i : Nat) : Con n a b i i := fun _ _ => rfl
theorem Con.symm {n : Nat} {a b : List Int} {i j : Nat} (h : Con n a b i j) : Con n a b j i := fun c hc => (h c hc).symm
theorem Con.trans {n : Nat} {a b : List Int} {i j k : Nat} (h : Con n a b i j) (h' : Con n a b j k) : Con n a b i k := fun c hc => (h c hc).trans (h' c hc)
theorem Con.fa {n : Nat} {a b : List Int} {i : Nat} (h : i < n) : Con n a b i (fn a i) := fun c hc => (hc i h).1.symm
theorem Con.fb {n : Nat} {a b : List Int} {i : Nat} (h : i < n) : Con n a b i (fn b i) := fun c hc => (hc i h).2.symm
def OrbPre (n : Nat) (a b o : List Int) : Prop := o.length = n ∧ ∀ i, i < n → 0 ≤ rd o (i : Int) ∧ rd o (i : Int) ≤ i ∧ Con n a b i (fn o i)
def IsOrb (n : Nat) (a b o : List Int) : Prop := OrbPre n a b o ∧ ∀ i, i < n → rd o (fn a i : Int) = rd o (i : Int) ∧ rd o (fn b i : Int) = rd o (i : Int)
theorem IsOrb.inv {n : Nat} {a b o : List Int} (h : IsOrb n a b o) : Inv2 n a b (fun i => rd o (i : Int)) := fun i hi => h.2 i hi
theorem OrbPre.pts {n : Nat} {a b o : List Int} (h : OrbPre n a b o) : Pts n o := ⟨h.1, fun i hi => by have := h.2 i hi; omega⟩
theorem IsOrb.unique {n : Nat} {a b o p : List Int} (h : IsOrb n a b o) (k : IsOrb n a b p) : o = p := by
  have key : ∀ {o p : List Int}, IsOrb n a b o → IsOrb n a b p → ∀ i, i < n → rd o (i : Int) ≤ rd p (i : Int) := by
    intro o p h k i hi
    have e := (k.1.2 i hi).2.2 _ h.inv
    have f := k.1.pts.fn hi
    have g := (h.1.2 (fn p i) f.2).2.1
    rw [e, f.1]; exact g
  refine list_ext_rd (by rw [h.1.1, k.1.1]) (fun i hi => ?_)
  rw [h.1.1] at hi
  have := key h k i hi
  have := key k h i hi
  omega
theorem rd_set_self (o : List Int) (i : Nat) (x : Int) (h : i < o.length) : rd (o.set i x) (i : Int) = x := rd_get? _ _ _ (List.getElem?_set_self h)
theorem rd_set_ne (o : List Int) (i j : Nat) (x : Int) (h : i ≠ j) : rd (o.set i x) (j : Int) = rd o (j : Int) := by
  simp only [rd, List.getD_eq_getElem?_getD, Int.toNat_natCast]
  rw [List.getElem?_set_ne h]
theorem OrbPre.set {n : Nat} {a b o : List Int} (h : OrbPre n a b o) {i j : Nat} (hi : i < n) (hj : j < n) (hc : Con n a b i j) (hle : rd o (j : Int) ≤ i) : OrbPre n a b (o.set i (rd o (j : Int))) := by
  refine ⟨by rw [List.length_set]; exact h.1, fun q hq => ?_⟩
  by_cases e : i = q
  · subst e
    have hz := h.2 j hj
    unfold M.fn
    rw [rd_set_self _ _ _ (by rw [h.1]; exact hi)]
    exact ⟨hz.1, hle, hc.trans hz.2.2⟩
  · have := h.2 q hq
    unfold M.fn at *
    rw [rd_set_ne _ _ _ _ e]; exact this
theorem OrbPre.put {n : Nat} {a b o : List Int} (h : OrbPre n a b o) {i : Nat} (hi : i < n) (x : Int) (h0 : 0 ≤ x) (hle : x ≤ i) (hc : Con n a b i x.toNat) : OrbPre n a b (o.set i x) := by
  refine ⟨by rw [List.length_set]; exact h.1, fun q hq => ?_⟩
  by_cases e : i = q
  · subst e
    unfold M.fn
    rw [rd_set_self _ _ _ (by rw [h.1]; exact hi)]
    exact ⟨h0, hle, hc⟩
  · have := h.2 q hq
    unfold M.fn at *
    rw [rd_set_ne _ _ _ _ e]; exact this
def idL (n : Nat) : List Int := (List.range n).map (fun i : Nat => (i : Int))
theorem idL_length (n : Nat) : (idL n).length = n := by simp [idL]
theorem rd_idL (n i : Nat) (h : i < n) : rd (idL n) (i : Int) = i := by
  rw [rd_nat _ _ (by rw [idL_length]; exact h)]; simp [idL]
theorem OrbPre.start (n : Nat) (a b : List Int) : OrbPre n a b (idL n) := by
  refine ⟨idL_length n, fun i hi => ?_⟩
  unfold M.fn
  rw [rd_idL n i hi]
  exact ⟨by omega, Int.le_refl _, Con.refl i⟩
theorem least_of (P : Nat → Prop) : ∀ n, P n → ∃ m, P m ∧ ∀ k, P k → m ≤ k := by
  intro n
  induction n using Nat.strongRecOn with
  | _ n ih =>
    intro h
    by_cases e : ∃ k, k < n ∧ P k
    · obtain ⟨k, hk, hp⟩ := e; exact ih k hk hp
    · exact ⟨n, h, fun k hp => by
        by_cases q : k < n
        · exact absurd ⟨k, q, hp⟩ e
        · omega⟩
noncomputable def low (n : Nat) (a b : List Int) (i : Nat) : Nat := Classical.choose (least_of (fun j => j < n → Con n a b i j) n (fun h => absurd h (Nat.lt_irrefl n)))
theorem low_spec {n : Nat} {a b : List Int} {i : Nat} (hi : i < n) : low n a b i ≤ i ∧ Con n a b i (low n a b i) ∧ ∀ j, j < n → Con n a b i j → low n a b i ≤ j := by
  have h := Classical.choose_spec (least_of (fun j => j < n → Con n a b i j) n (fun h => absurd h (Nat.lt_irrefl n)))
  have h1 : low n a b i ≤ i := h.2 i (fun _ => Con.refl i)
  exact ⟨h1, h.1 (by show low n a b i < n; omega), fun j hj hc => h.2 j (fun _ => hc)⟩
theorem low_con {n : Nat} {a b : List Int} {i j : Nat} (hi : i < n) (hj : j < n) (h : Con n a b i j) : low n a b i = low n a b j := by
  obtain ⟨a1, a2, a3⟩ := low_spec (a := a) (b := b) hi
  obtain ⟨b1, b2, b3⟩ := low_spec (a := a) (b := b) hj
  have := a3 _ (by omega) (h.trans b2)
  have := b3 _ (by omega) (h.symm.trans a2)
  omega
theorem OrbPre.low_le {n : Nat} {a b o : List Int} (h : OrbPre n a b o) {i : Nat} (hi : i < n) : (low n a b i : Int) ≤ rd o (i : Int) := by
  have := h.2 i hi
  have f := h.pts.fn hi
  have := (low_spec (a := a) (b := b) hi).2.2 _ f.2 this.2.2
  omega
noncomputable def orbL (a b : List Int) : List Int := (List.range a.length).map (fun i => (low a.length a b i : Int))
theorem orbL_length (a b : List Int) : (orbL a b).length = a.length := by simp [orbL]
theorem rd_orbL (a b : List Int) (i : Nat) (h : i < a.length) : rd (orbL a b) (i : Int) = low a.length a b i := by
  rw [rd_nat _ _ (by rw [orbL_length]; exact h)]; simp [orbL]
theorem orbL_isOrb {n : Nat} {a b : List Int} (ha : Pts n a) (hb : Pts n b) : IsOrb n a b (orbL a b) := by
  have hn := ha.1
  refine ⟨⟨by rw [orbL_length, hn], fun i hi => ?_⟩, fun i hi => ?_⟩
  · obtain ⟨h1, h2, h3⟩ := low_spec (a := a) (b := b) hi
    unfold M.fn
    rw [rd_orbL a b i (by omega), hn]
    exact ⟨by omega, by omega, h2⟩
  · have fa := (ha.fn hi).2
    have fb := (hb.fn hi).2
    rw [rd_orbL a b _ (by omega), rd_orbL a b _ (by omega), rd_orbL a b _ (by omega), hn, low_con fa hi (Con.fa hi).symm, low_con fb hi (Con.fb hi).symm]
    exact ⟨rfl, rfl⟩
theorem IsOrb.eq {n : Nat} {a b o : List Int} (ha : Pts n a) (hb : Pts n b) (h : IsOrb n a b o) : o = orbL a b := h.unique (orbL_isOrb ha hb)
def cntP (p : Nat → Bool) : Nat → Nat
  | 0 => 0
  | n + 1 => cntP p n + (if p n = true then 1 else 0)
theorem cntP_le (p : Nat → Bool) : ∀ n, cntP p n ≤ n
  | 0 => Nat.le_refl _
  | n + 1 => by have := cntP_le p n; simp only [cntP]; split <;> omega
theorem cntP_mono (p q : Nat → Bool) : ∀ n, (∀ i, i < n → p i = true → q i = true) → cntP p n ≤ cntP q n
  | 0, _ => Nat.le_refl _
  | n + 1, h => by
    have := cntP_mono p q n (fun i hi => h i (by omega))
    have := h n (by omega)
    simp only [cntP]
    by_cases e : p n = true
    · rw [if_pos e, if_pos (this e)]; omega
    · rw [if_neg e]; split <;> omega
theorem cntP_lt (p q : Nat → Bool) : ∀ n, (∀ i, i < n → p i = true → q i = true) → (∃ i, i < n ∧ p i = false ∧ q i = true) → cntP p n < cntP q n
  | 0, _, h => by obtain ⟨i, hi, _⟩ := h; omega
  | n + 1, h, ⟨i, hi, h1, h2⟩ => by
    have hn := h n (by omega)
    simp only [cntP]
    by_cases e : i = n
    · subst e
      have := cntP_mono p q i (fun j hj => h j (by omega))
      rw [h1, h2]; simp; omega
    · have := cntP_lt p q n (fun j hj => h j (by omega)) ⟨i, by omega, h1, h2⟩
      by_cases e2 : p n = true
      · rw [if_pos e2, if_pos (hn e2)]; omega
      · rw [if_neg e2]; split <;> omega
theorem cntP_all (p : Nat → Bool) : ∀ n, cntP p n = n → ∀ i, i < n → p i = true
  | 0, _, i, hi => by omega
  | n + 1, h, i, hi => by
    have hl := cntP_le p n
    simp only [cntP] at h
    by_cases e : p n = true
    · rw [if_pos e] at h
      by_cases ei : i = n
      · subst ei; exact e
      · exact cntP_all p n (by omega) i (by omega)
    · rw [if_neg e] at h; omega
theorem cntP_congr (p q : Nat → Bool) : ∀ n, (∀ i, i < n → p i = q i) → cntP p n = cntP q n
  | 0, _ => rfl
  | n + 1, h => by simp only [cntP]; rw [cntP_congr p q n (fun i hi => h i (by omega)), h n (by omega)]
def Rounded (n : Nat) (a b o o' : List Int) : Prop := (∀ i, i < n → rd o' (i : Int) ≤ rd o (i : Int)) ∧ ∀ i, i < n →
  (rd o' (fn a i : Int) ≤ rd o (i : Int) ∧ rd o' (i : Int) ≤ rd o (fn a i : Int)) ∧ (rd o' (fn b i : Int) ≤ rd o (i : Int) ∧ rd o' (i : Int) ≤ rd o (fn b i : Int))
noncomputable def okB (n : Nat) (a b o : List Int) (i : Nat) : Bool := decide (rd o (i : Int) = low n a b i)
theorem round_more {n : Nat} {a b o o' : List Int} (ha : Pts n a) (hb : Pts n b) (h : OrbPre n a b o) (h' : OrbPre n a b o') (hr : Rounded n a b o o') :
    cntP (okB n a b o) n = n ∨ cntP (okB n a b o) n < cntP (okB n a b o') n := by
  have hmono : ∀ i, i < n → okB n a b o i = true → okB n a b o' i = true := by
    intro i hi hk
    unfold okB at *
    have h1 := of_decide_eq_true hk
    have h2 := hr.1 i hi
    have h3 := h'.low_le hi
    exact decide_eq_true (by omega)
  by_cases hall : ∀ i, i < n → okB n a b o i = true
  · left
    have := cntP_mono (fun _ => true) (okB n a b o) n (fun i hi _ => hall i hi)
    have h2 := cntP_le (okB n a b o) n
    have h3 : ∀ m, cntP (fun _ => true) m = m := by
      intro m
      induction m with
      | zero => rfl
      | succ m ih => simp only [cntP, ih]; rfl
    rw [h3] at this; omega
  · right
    refine cntP_lt _ _ n hmono ?_
    refine Classical.byContradiction fun hno => hall ?_
    -- nobody turns good: then goodness is a colouring
    have hst : ∀ i, i < n → okB n a b o i = false → okB n a b o' i = false := by
      intro i hi hf
      cases hq : okB n a b o' i with
      | false => rfl
      | true => exact absurd ⟨i, hi, hf, hq⟩ hno
    have edge : ∀ i j, i < n → j < n → Con n a b i j → rd o' (j : Int) ≤ rd o (i : Int) → okB n a b o i = true → okB n a b o j = true := by
      intro i j hi hj hc hle hk
      cases hq : okB n a b o j with
      | true => rfl
      | false =>
        have h1 := hst j hj hq
        unfold okB at h1 hk
        have h2 := of_decide_eq_true hk
        have h3 := h'.low_le hj
        have h4 := low_con hi hj hc
        exact absurd (show rd o' (j : Int) = low n a b j by omega) (of_decide_eq_false h1)
    have hinv : Inv2 n a b (fun i => if okB n a b o i = true then 1 else 0) := by
      intro i hi
      have fa := (ha.fn hi).2
      have fb := (hb.fn hi).2
      obtain ⟨⟨e1, e2⟩, e3, e4⟩ := hr.2 i hi
      have ea : okB n a b o (fn a i) = true ↔ okB n a b o i = true := ⟨edge _ _ fa hi (Con.fa hi).symm e2, edge _ _ hi fa (Con.fa hi) e1⟩
      have eb : okB n a b o (fn b i) = true ↔ okB n a b o i = true := ⟨edge _ _ fb hi (Con.fb hi).symm e4, edge _ _ hi fb (Con.fb hi) e3⟩
      simp only [ea, eb]
      exact ⟨trivial, trivial⟩
    intro i hi
    obtain ⟨l1, l2, l3⟩ := low_spec (a := a) (b := b) hi
    have hl : low n a b i < n := by omega
    have hgood : okB n a b o (low n a b i) = true := by
      unfold okB
      have h1 := h.2 _ hl
      have h2 := h.low_le hl
      have h3 := low_con hi hl l2
      exact decide_eq_true (by omega)
    have := l2 _ hinv
    simp only [hgood, if_true] at this
    cases hq : okB n a b o i with
    | true => rfl
    | false => rw [hq] at this; simp at this
theorem settled {n : Nat} {a b o : List Int} (ha : Pts n a) (hb : Pts n b) (h : OrbPre n a b o) (hc : cntP (okB n a b o) n = n) : o = orbL a b := by
  refine list_ext_rd (by rw [h.1, orbL_length, ha.1]) (fun i hi => ?_)
  rw [h.1] at hi
  have := of_decide_eq_true (cntP_all _ n hc i hi)
  rw [this, rd_orbL a b i (by rw [ha.1]; exact hi), ha.1]
def sumN (f : Nat → Nat) : Nat → Nat
  | 0 => 0
  | n + 1 => sumN f n + f n
theorem sumN_congr {f g : Nat → Nat} : ∀ {n : Nat}, (∀ i, i < n → f i = g i) → sumN f n = sumN g n
  | 0, _ => rfl
  | n + 1, h => by simp only [sumN]; rw [sumN_congr (n := n) (fun i hi => h i (by omega)), h n (by omega)]
theorem sumN_add (f g : Nat → Nat) : ∀ n, sumN (fun i => f i + g i) n = sumN f n + sumN g n
  | 0 => rfl
  | n + 1 => by simp only [sumN]; rw [sumN_add f g n]; omega
theorem sumN_zero : ∀ n, sumN (fun _ => 0) n = 0
  | 0 => rfl
  | n + 1 => by simp only [sumN]; rw [sumN_zero n]
theorem sumN_swap (f : Nat → Nat → Nat) (m : Nat) : ∀ n, sumN (fun i => sumN (fun j => f i j) m) n = sumN (fun j => sumN (fun i => f i j) n) m
  | 0 => by simp only [sumN]; exact (sumN_zero m).symm
  | n + 1 => by
    simp only [sumN]
    rw [sumN_swap f m n, ← sumN_add]
theorem sumN_single (v : Nat → Nat) (k : Nat) : ∀ n, sumN (fun i => if i = k then v i else 0) n = if k < n then v k else 0
  | 0 => by simp [sumN]
  | n + 1 => by
    simp only [sumN]
    rw [sumN_single v k n]
    by_cases h1 : k < n
    · rw [if_pos h1, if_neg (by omega), if_pos (by omega)]; rfl
    · rw [if_neg h1]
      by_cases h2 : n = k
      · subst h2; rw [if_pos rfl, if_pos (by omega)]; omega
      · rw [if_neg h2, if_neg (by omega)]
theorem sumN_mono {f g : Nat → Nat} : ∀ {n : Nat}, (∀ i, i < n → f i ≤ g i) → sumN f n ≤ sumN g n
  | 0, _ => Nat.le_refl _
  | n + 1, h => by
    have := sumN_mono (n := n) (fun i hi => h i (by omega))
    have := h n (by omega)
    simp only [sumN]; omega
theorem cntP_sum (p : Nat → Bool) : ∀ n, cntP p n = sumN (fun i => if p i = true then 1 else 0) n
  | 0 => rfl
  | n + 1 => by simp only [cntP, sumN]; rw [cntP_sum p n]
theorem sumN_perm (f : Nat → Nat) {n : Nat} (σ τ : Nat → Nat) (hσ : ∀ i, i < n → σ i < n ∧ τ (σ i) = i) (hτ : ∀ i, i < n → τ i < n ∧ σ (τ i) = i) : sumN (fun i => f (σ i)) n = sumN f n := by
  have h1 : sumN (fun i => f (σ i)) n = sumN (fun i => sumN (fun j => if j = σ i then f j else 0) n) n :=
    sumN_congr (fun i hi => by rw [sumN_single f (σ i) n, if_pos (hσ i hi).1])
  have h2 : sumN (fun j => sumN (fun i => if j = σ i then f j else 0) n) n = sumN f n :=
    sumN_congr (fun j hj => by
      have : sumN (fun i => if j = σ i then f j else 0) n = sumN (fun i => if i = τ j then f j else 0) n := sumN_congr (fun i hi => by
        by_cases e : j = σ i
        · rw [if_pos e, if_pos (by rw [e, (hσ i hi).2])]
        · rw [if_neg e, if_neg (fun h => e (by rw [h, (hτ j hj).2]))])
      rw [this, sumN_single (fun _ => f j) (τ j) n, if_pos (hτ j hj).1])
  rw [h1, sumN_swap, h2]
theorem cntP_perm (p : Nat → Bool) {n : Nat} (σ τ : Nat → Nat) (hσ : ∀ i, i < n → σ i < n ∧ τ (σ i) = i) (hτ : ∀ i, i < n → τ i < n ∧ σ (τ i) = i) : cntP (fun i => p (σ i)) n = cntP p n := by
  rw [cntP_sum, cntP_sum]
  exact sumN_perm (fun i => if p i = true then 1 else 0) σ τ hσ hτ
theorem cntP_not (p : Nat → Bool) : ∀ n, cntP p n + cntP (fun i => !p i) n = n
  | 0 => rfl
  | n + 1 => by
    have := cntP_not p n
    simp only [cntP]
    by_cases e : p n = true
    · rw [if_pos e, if_neg (by simp [e])]; omega
    · rw [if_neg e, if_pos (by simpa using e)]; omega
def InvE (E : Nat → Nat → Prop) (c : Nat → Nat) : Prop := ∀ x y, E x y → c x = c y
def ConE (E : Nat → Nat → Prop) (i j : Nat) : Prop := ∀ c, InvE E c → c i = c j
theorem ConE.refl {E : Nat → Nat → Prop} (i : Nat) : ConE E i i := fun _ _ => rfl
theorem ConE.symm {E : Nat → Nat → Prop} {i j : Nat} (h : ConE E i j) : ConE E j i := fun c hc => (h c hc).symm
theorem ConE.trans {E : Nat → Nat → Prop} {i j k : Nat} (h : ConE E i j) (h' : ConE E j k) : ConE E i k := fun c hc => (h c hc).trans (h' c hc)
theorem ConE.step {E : Nat → Nat → Prop} {i j : Nat} (h : E i j) : ConE E i j := fun c hc => hc i j h
noncomputable def ind (P : Prop) : Nat := @ite _ P (Classical.propDecidable P) 1 0
theorem ind_iff {P Q : Prop} (h : P ↔ Q) : ind P = ind Q := by rw [propext h]
theorem ind_true {P : Prop} (h : P) : ind P = 1 := by unfold ind; rw [if_pos h]
theorem ind_false {P : Prop} (h : ¬ P) : ind P = 0 := by unfold ind; rw [if_neg h]
theorem of_ind {P Q : Prop} (h : ind P = ind Q) (hp : P) : Q := by
  rw [ind_true hp] at h
  refine Classical.byContradiction fun hq => ?_
  rw [ind_false hq] at h; omega
noncomputable def lstB (E : Nat → Nat → Prop) (i : Nat) : Bool := @decide (∀ j, j < i → ¬ ConE E i j) (Classical.propDecidable _)
theorem lstB_iff {E : Nat → Nat → Prop} {i : Nat} : lstB E i = true ↔ ∀ j, j < i → ¬ ConE E i j := by
  unfold lstB
  exact @decide_eq_true_iff _ (Classical.propDecidable _)
noncomputable def clsN (E : Nat → Nat → Prop) (n : Nat) : Nat := cntP (lstB E) n
theorem least_con (E : Nat → Nat → Prop) (x : Nat) : ∃ l, ConE E x l ∧ l ≤ x ∧ ∀ k, ConE E x k → l ≤ k := by
  obtain ⟨l, h1, h2⟩ := least_of (ConE E x) x (ConE.refl x)
  exact ⟨l, h1, h2 x (ConE.refl x), h2⟩
structure PermN (n : Nat) (f g : Nat → Nat) : Prop where
  fl : ∀ i, i < n → f i < n
  gl : ∀ i, i < n → g i < n
  gf : ∀ i, i < n → g (f i) = i
  fg : ∀ i, i < n → f (g i) = i
theorem PermN.inj {n : Nat} {f g : Nat → Nat} (h : PermN n f g) {i j : Nat} (hi : i < n) (hj : j < n) (e : f i = f j) : i = j := by rw [← h.gf i hi, e, h.gf j hj]
def EF (n : Nat) (f : Nat → Nat) : Nat → Nat → Prop := fun a b => a < n ∧ b = f a
noncomputable def cyc (n : Nat) (f : Nat → Nat) : Nat := clsN (EF n f) n
def itr (f : Nat → Nat) : Nat → Nat → Nat
  | 0, x => x
  | k + 1, x => f (itr f k x)
theorem itr_lt {n : Nat} {f g : Nat → Nat} (h : PermN n f g) {x : Nat} (hx : x < n) : ∀ k, itr f k x < n
  | 0 => hx
  | k + 1 => h.fl _ (itr_lt h hx k)
theorem itr_con {n : Nat} {f g : Nat → Nat} (h : PermN n f g) {x : Nat} (hx : x < n) : ∀ k, ConE (EF n f) x (itr f k x)
  | 0 => ConE.refl x
  | k + 1 => (itr_con h hx k).trans (ConE.step ⟨itr_lt h hx k, rfl⟩)
theorem sum_ind_le_one (P : Nat → Bool) : ∀ m, (∀ i j, i < m → j < m → P i = true → P j = true → i = j) → cntP P m ≤ 1
  | 0, _ => by simp [cntP]
  | m + 1, h => by
    have := sum_ind_le_one P m (fun i j hi hj => h i j (by omega) (by omega))
    simp only [cntP]
    by_cases e : P m = true
    · rw [if_pos e]
      have : cntP P m = 0 := by
        rw [cntP_congr P (fun _ => false) m (fun i hi => by
          cases q : P i with
          | false => rfl
          | true => have := h i m (by omega) (by omega) q e; omega)]
        have : ∀ m, cntP (fun _ => false) m = 0 := by
          intro m
          induction m with
          | zero => rfl
          | succ m ih => simp only [cntP]; rw [ih]; rfl
        exact this m
      omega
    · rw [if_neg e]; omega
theorem sumN_const (v : Nat) : ∀ n, sumN (fun _ => v) n = n * v
  | 0 => by simp [sumN]
  | n + 1 => by simp only [sumN]; rw [sumN_const v n, Nat.succ_mul]
theorem pigeon (n : Nat) (h : Nat → Nat) (hn : ∀ i, i < n + 1 → h i < n) : ∃ i j, i < j ∧ j < n + 1 ∧ h i = h j := by
  refine Classical.byContradiction fun hno => ?_
  have hinj : ∀ i j, i < n + 1 → j < n + 1 → h i = h j → i = j := by
    intro i j hi hj e
    rcases Nat.lt_trichotomy i j with q | q | q
    · exact absurd ⟨i, j, q, hj, e⟩ hno
    · exact q
    · exact absurd ⟨j, i, q, hi, e.symm⟩ hno
  have h1 : sumN (fun i => sumN (fun j => if j = h i then 1 else 0) n) (n + 1) = n + 1 := by
    rw [sumN_congr (g := fun _ => 1) (fun i hi => by rw [sumN_single (fun _ => 1) (h i) n, if_pos (hn i hi)]), sumN_const]; omega
  have h2 : sumN (fun j => sumN (fun i => if j = h i then 1 else 0) (n + 1)) n ≤ n := by
    have : sumN (fun j => sumN (fun i => if j = h i then 1 else 0) (n + 1)) n ≤ sumN (fun _ => 1) n := sumN_mono (fun j hj => by
      have e : sumN (fun i => if j = h i then 1 else 0) (n + 1) = cntP (fun i => decide (j = h i)) (n + 1) := by
        rw [cntP_sum]; refine sumN_congr (fun i hi => ?_); simp
      rw [e]
      exact sum_ind_le_one _ _ (fun i k hi hk a b => hinj i k hi hk (by rw [← of_decide_eq_true a, ← of_decide_eq_true b])))
    rw [sumN_const] at this; omega
  rw [sumN_swap] at h1
  omega
theorem itr_cancel {n : Nat} {f g : Nat → Nat} (h : PermN n f g) {x : Nat} (hx : x < n) : ∀ i d, itr f i x = itr f (i + d) x → itr f d x = x
  | 0, d, e => by rw [Nat.zero_add] at e; exact e.symm
  | i + 1, d, e => by
    rw [show i + 1 + d = (i + d) + 1 by omega] at e
    exact itr_cancel h hx i d (h.inj (itr_lt h hx i) (itr_lt h hx (i + d)) e)
theorem period {n : Nat} {f g : Nat → Nat} (h : PermN n f g) {x : Nat} (hx : x < n) : ∃ p, 1 ≤ p ∧ p ≤ n ∧ itr f p x = x ∧ ∀ k, 1 ≤ k → k < p → itr f k x ≠ x := by
  obtain ⟨i, j, hij, hj, e⟩ := pigeon n (fun k => itr f k x) (fun k _ => itr_lt h hx k)
  have h1 : itr f (j - i) x = x := itr_cancel h hx i (j - i) (by rw [show i + (j - i) = j by omega]; exact e)
  obtain ⟨p, ⟨p1, p2⟩, p3⟩ := least_of (fun k => 1 ≤ k ∧ itr f k x = x) (j - i) ⟨by omega, h1⟩
  have := p3 (j - i) ⟨by omega, h1⟩
  exact ⟨p, p1, by omega, p2, fun k k1 k2 e => by have := p3 k ⟨k1, e⟩; omega⟩
theorem con_itr {n : Nat} {f g : Nat → Nat} (h : PermN n f g) {x y p : Nat} (hx : x < n) (p1 : 1 ≤ p) (p2 : itr f p x = x) (hc : ConE (EF n f) x y) : ∃ m, m < p ∧ y = itr f m x := by
  refine of_ind (hc (fun z => ind (∃ m, m < p ∧ z = itr f m x)) ?_) ⟨0, by omega, rfl⟩
  rintro z w ⟨hz, rfl⟩
  refine ind_iff ⟨?_, ?_⟩
  · rintro ⟨m, hm, rfl⟩
    by_cases e : m + 1 = p
    · exact ⟨0, by omega, by rw [show f (itr f m x) = itr f (m + 1) x from rfl, e, p2]; rfl⟩
    · exact ⟨m + 1, by omega, rfl⟩
  · rintro ⟨m, hm, e⟩
    cases m with
    | zero =>
      refine ⟨p - 1, by omega, h.inj hz (itr_lt h hx _) ?_⟩
      rw [show f (itr f (p - 1) x) = itr f (p - 1 + 1) x from rfl, show p - 1 + 1 = p by omega, p2]; exact e
    | succ m => exact ⟨m, by omega, h.inj hz (itr_lt h hx _) e⟩
noncomputable def per (f : Nat → Nat) (x : Nat) : Nat := Classical.epsilon (fun p => 1 ≤ p ∧ itr f p x = x ∧ ∀ k, 1 ≤ k → k < p → itr f k x ≠ x)
theorem per_spec {n : Nat} {f g : Nat → Nat} (h : PermN n f g) {x : Nat} (hx : x < n) : 1 ≤ per f x ∧ per f x ≤ n ∧ itr f (per f x) x = x ∧ ∀ k, 1 ≤ k → k < per f x → itr f k x ≠ x := by
  obtain ⟨p, p1, p2, p3, p4⟩ := period h hx
  have hs := Classical.epsilon_spec (p := fun p => 1 ≤ p ∧ itr f p x = x ∧ ∀ k, 1 ≤ k → k < p → itr f k x ≠ x) ⟨p, p1, p3, p4⟩
  have hs' : 1 ≤ per f x ∧ itr f (per f x) x = x ∧ ∀ k, 1 ≤ k → k < per f x → itr f k x ≠ x := hs
  refine ⟨hs'.1, ?_, hs'.2.1, hs'.2.2⟩
  by_cases e : per f x ≤ n
  · exact e
  · exact absurd p3 (hs'.2.2 p p1 (by omega))
noncomputable def cycOf (f : Nat → Nat) (x : Nat) : List Int := (List.range (per f x)).map (fun k => (itr f k x : Int))
theorem cycOf_length (f : Nat → Nat) (x : Nat) : (cycOf f x).length = per f x := by simp [cycOf]
noncomputable def cycUp (n : Nat) (f : Nat → Nat) (i : Nat) : List (List Int) := ((List.range i).filter (lstB (EF n f))).map (cycOf f)
noncomputable def cycL (n : Nat) (f : Nat → Nat) : List (List Int) := cycUp n f n
theorem filter_cntP (p : Nat → Bool) : ∀ n, ((List.range n).filter p).length = cntP p n
  | 0 => rfl
  | n + 1 => by
    rw [List.range_succ, List.filter_append, List.length_append, filter_cntP p n]
    simp only [cntP, List.filter_cons, List.filter_nil]
    split <;> rfl
theorem cycL_length (n : Nat) (f : Nat → Nat) : (cycL n f).length = cyc n f := by
  unfold cycL cycUp cyc clsN
  rw [List.length_map, filter_cntP]
theorem cycUp_length_le (n : Nat) (f : Nat → Nat) (i : Nat) : (cycUp n f i).length ≤ i := by
  unfold cycUp; rw [List.length_map, filter_cntP]; exact cntP_le _ _
theorem cycUp_pos {n : Nat} {f : Nat → Nat} {i : Nat} (h : lstB (EF n f) i = true) : cycUp n f (i + 1) = cycUp n f i ++ [cycOf f i] := by
  unfold cycUp; rw [List.range_succ, List.filter_append, List.map_append]; simp [h]
theorem cycUp_neg {n : Nat} {f : Nat → Nat} {i : Nat} (h : lstB (EF n f) i = false) : cycUp n f (i + 1) = cycUp n f i := by
  unfold cycUp; rw [List.range_succ, List.filter_append, List.map_append]; simp [h]
def SeenAt (n : Nat) (f : Nat → Nat) (i : Nat) (b : List Bool) : Prop := b.length = n ∧ ∀ j, j < n → (rdOf false b (j : Int) = true ↔ ∃ r, r < i ∧ ConE (EF n f) r j)
def SeenIn (n : Nat) (f : Nat → Nat) (i t : Nat) (b : List Bool) : Prop := b.length = n ∧ ∀ j, j < n → (rdOf false b (j : Int) = true ↔ ((∃ r, r < i ∧ ConE (EF n f) r j) ∨ ∃ s, s < t ∧ j = itr f s i))
theorem rdOf_set_self (o : List Bool) (i : Nat) (x : Bool) (h : i < o.length) : rdOf false (o.set i x) (i : Int) = x := by
  simp [rdOf, List.getD_eq_getElem?_getD, List.getElem?_set_self h]
theorem rdOf_set_ne (o : List Bool) (i j : Nat) (x : Bool) (h : i ≠ j) : rdOf false (o.set i x) (j : Int) = rdOf false o (j : Int) := by
  simp only [rdOf, List.getD_eq_getElem?_getD, Int.toNat_natCast]
  rw [List.getElem?_set_ne h]
theorem SeenAt.start (n : Nat) (f : Nat → Nat) : SeenAt n f 0 (List.replicate n false) := by
  refine ⟨List.length_replicate, fun j hj => ?_⟩
  have : rdOf false (List.replicate n false) (j : Int) = false := by simp [rdOf, List.getD_eq_getElem?_getD, List.getElem?_replicate, hj]
  rw [this]
  exact ⟨fun h => absurd h (by simp), fun ⟨r, hr, _⟩ => absurd hr (Nat.not_lt_zero r)⟩
theorem SeenAt.least {n : Nat} {f : Nat → Nat} {i : Nat} {b : List Bool} (h : SeenAt n f i b) (hi : i < n) : lstB (EF n f) i = !(rdOf false b (i : Int)) := by
  cases q : rdOf false b (i : Int) with
  | true =>
    obtain ⟨r, hr, hc⟩ := (h.2 i hi).1 q
    cases e : lstB (EF n f) i with
    | false => rfl
    | true => exact absurd hc.symm (lstB_iff.1 e r hr)
  | false =>
    refine lstB_iff.2 (fun j hj hc => ?_)
    have := (h.2 i hi).2 ⟨j, hj, hc.symm⟩
    rw [q] at this; cases this
theorem SeenAt.skip {n : Nat} {f : Nat → Nat} {i : Nat} {b : List Bool} (h : SeenAt n f i b) (hi : i < n) (q : rdOf false b (i : Int) = true) : SeenAt n f (i + 1) b := by
  refine ⟨h.1, fun j hj => (h.2 j hj).trans ⟨fun ⟨r, hr, hc⟩ => ⟨r, by omega, hc⟩, fun ⟨r, hr, hc⟩ => ?_⟩⟩
  by_cases e : r = i
  · subst e
    obtain ⟨r', hr', hc'⟩ := (h.2 r hi).1 q
    exact ⟨r', hr', hc'.trans hc⟩
  · exact ⟨r, by omega, hc⟩
theorem SeenAt.into {n : Nat} {f : Nat → Nat} {i : Nat} {b : List Bool} (h : SeenAt n f i b) : SeenIn n f i 0 b :=
  ⟨h.1, fun j hj => (h.2 j hj).trans ⟨.inl, fun h => h.elim id (fun ⟨s, hs, _⟩ => absurd hs (Nat.not_lt_zero s))⟩⟩
theorem SeenIn.fresh {n : Nat} {f g : Nat → Nat} (hp : PermN n f g) {i t : Nat} {b : List Bool} (h : SeenIn n f i t b) (hi : i < n) (hl : lstB (EF n f) i = true) (ht : t < per f i) : rdOf false b (itr f t i : Int) = false := by
  cases q : rdOf false b (itr f t i : Int) with
  | false => rfl
  | true =>
    obtain ⟨p1, p2, p3, p4⟩ := per_spec hp hi
    rcases (h.2 _ (itr_lt hp hi t)).1 q with ⟨r, hr, hc⟩ | ⟨s, hs, e⟩
    · exact absurd ((itr_con hp hi t).trans hc.symm) (lstB_iff.1 hl r hr)
    · have := itr_cancel hp hi s (t - s) (by rw [show s + (t - s) = t by omega]; exact e.symm)
      exact absurd this (p4 (t - s) (by omega) (by omega))
theorem SeenIn.next {n : Nat} {f g : Nat → Nat} (hp : PermN n f g) {i t : Nat} {b : List Bool} (h : SeenIn n f i t b) (hi : i < n) : SeenIn n f i (t + 1) (b.set (itr f t i) true) := by
  refine ⟨by rw [List.length_set]; exact h.1, fun j hj => ?_⟩
  by_cases e : itr f t i = j
  · rw [← e, rdOf_set_self _ _ _ (by rw [h.1]; exact itr_lt hp hi t)]
    exact ⟨fun _ => .inr ⟨t, by omega, rfl⟩, fun _ => rfl⟩
  · rw [rdOf_set_ne _ _ _ _ e, h.2 j hj]
    constructor
    · rintro (k | ⟨s, hs, k⟩)
      · exact .inl k
      · exact .inr ⟨s, by omega, k⟩
    · rintro (k | ⟨s, hs, k⟩)
      · exact .inl k
      · refine .inr ⟨s, ?_, k⟩
        by_cases e2 : s = t
        · subst e2; exact absurd k.symm e
        · omega
theorem SeenIn.closed {n : Nat} {f g : Nat → Nat} (hp : PermN n f g) {i : Nat} {b : List Bool} (h : SeenIn n f i (per f i) b) (hi : i < n) : rdOf false b (itr f (per f i) i : Int) = true ∧ SeenAt n f (i + 1) b := by
  obtain ⟨p1, p2, p3, p4⟩ := per_spec hp hi
  refine ⟨(h.2 _ (itr_lt hp hi _)).2 (.inr ⟨0, by omega, p3⟩), h.1, fun j hj => (h.2 j hj).trans ?_⟩
  constructor
  · rintro (⟨r, hr, hc⟩ | ⟨s, hs, rfl⟩)
    · exact ⟨r, by omega, hc⟩
    · exact ⟨i, by omega, itr_con hp hi s⟩
  · rintro ⟨r, hr, hc⟩
    by_cases e : r = i
    · subst e
      obtain ⟨m, hm, e⟩ := con_itr hp hi p1 p3 hc
      exact .inr ⟨m, hm, e⟩
    · exact .inl ⟨r, by omega, hc⟩
theorem cycOf_take (f : Nat → Nat) (x t : Nat) : (List.range (t + 1)).map (fun k => (itr f k x : Int)) = (List.range t).map (fun k => (itr f k x : Int)) ++ [(itr f t x : Int)] := by
  rw [List.range_succ, List.map_append]; rfl
def PermL (n : Nat) (p : List Int) : Prop := Pts n p ∧ ∀ i j, i < n → j < n → fn p i = fn p j → i = j
noncomputable def bck (n : Nat) (f : Nat → Nat) (j : Nat) : Nat := Classical.epsilon (fun i => i < n ∧ f i = j)
theorem onto_of_inj : ∀ (n : Nat) (f : Nat → Nat), (∀ i, i < n → f i < n) → (∀ i j, i < n → j < n → f i = f j → i = j) → ∀ j, j < n → ∃ i, i < n ∧ f i = j := by
  intro n f hf hinj j hj
  refine Classical.byContradiction fun hno => ?_
  obtain ⟨m, rfl⟩ : ∃ m, n = m + 1 := ⟨n - 1, by omega⟩
  -- squeeze the value j out
  obtain ⟨a, b, hab, hb, e⟩ := pigeon m (fun i => if f i < j then f i else f i - 1) (fun i hi => by
    have h1 := hf i hi
    have h2 : f i ≠ j := fun q => hno ⟨i, hi, q⟩
    show (if f i < j then f i else f i - 1) < m
    split <;> omega)
  have h1 : f a ≠ j := fun q => hno ⟨a, by omega, q⟩
  have h2 : f b ≠ j := fun q => hno ⟨b, by omega, q⟩
  have e' : (if f a < j then f a else f a - 1) = (if f b < j then f b else f b - 1) := e
  have : f a = f b := by
    split at e' <;> split at e' <;> omega
  have := hinj a b (by omega) (by omega) this
  omega
theorem permN_of_inj {n : Nat} {f : Nat → Nat} (hf : ∀ i, i < n → f i < n) (hinj : ∀ i j, i < n → j < n → f i = f j → i = j) : PermN n f (bck n f) := by
  have hs : ∀ j, j < n → bck n f j < n ∧ f (bck n f j) = j := fun j hj => Classical.epsilon_spec (onto_of_inj n f hf hinj j hj)
  exact ⟨hf, fun i hi => (hs i hi).1, fun i hi => hinj _ _ (hs _ (hf i hi)).1 hi (hs _ (hf i hi)).2, fun i hi => (hs i hi).2⟩
theorem PermL.perm {n : Nat} {p : List Int} (h : PermL n p) : PermN n (fn p) (bck n (fn p)) := permN_of_inj (fun i hi => (h.1.fn hi).2) h.2
def mulL (a b : List Int) : List Int := a.map (fun x => rd b x)
theorem mulL_length (a b : List Int) : (mulL a b).length = a.length := by simp [mulL]
theorem rd_mulL (a b : List Int) (i : Nat) (h : i < a.length) : rd (mulL a b) (i : Int) = rd b (rd a (i : Int)) := by
  rw [rd_nat _ _ (by rw [mulL_length]; exact h), rd_nat a i h]; simp [mulL]
theorem mulL_pts {n : Nat} {a b : List Int} (ha : Pts n a) (hb : Pts n b) : Pts n (mulL a b) := by
  refine ⟨by rw [mulL_length, ha.1], fun i hi => ?_⟩
  rw [rd_mulL a b i (by rw [ha.1]; exact hi), (ha.fn hi).1]
  exact hb.2 _ (ha.fn hi).2
theorem fn_mulL {n : Nat} {a b : List Int} (ha : Pts n a) {i : Nat} (hi : i < n) : fn (mulL a b) i = fn b (fn a i) := by
  unfold fn
  rw [rd_mulL a b i (by rw [ha.1]; exact hi)]
  have := (ha.fn hi).1
  rw [this]; rfl
theorem mulL_perm {n : Nat} {a b : List Int} (ha : PermL n a) (hb : PermL n b) : PermL n (mulL a b) := by
  refine ⟨mulL_pts ha.1 hb.1, fun i j hi hj e => ?_⟩
  rw [fn_mulL ha.1 hi, fn_mulL ha.1 hj] at e
  exact ha.2 i j hi hj (hb.2 _ _ (ha.1.fn hi).2 (ha.1.fn hj).2 e)
noncomputable def backL (p : List Int) : List Int := (List.range p.length).map (fun j => (bck p.length (fn p) j : Int))
theorem backL_length (p : List Int) : (backL p).length = p.length := by simp [backL]
theorem rd_backL (p : List Int) (j : Nat) (h : j < p.length) : rd (backL p) (j : Int) = bck p.length (fn p) j := by
  rw [rd_nat _ _ (by rw [backL_length]; exact h)]; simp [backL]
theorem fn_backL {n : Nat} {p : List Int} (hp : PermL n p) {j : Nat} (h : j < n) : fn (backL p) j = bck n (fn p) j := by
  unfold fn; rw [rd_backL p j (by rw [hp.1.1]; exact h), hp.1.1]; rfl
theorem backL_perm {n : Nat} {p : List Int} (hp : PermL n p) : PermL n (backL p) := by
  have h := hp.perm
  refine ⟨⟨by rw [backL_length, hp.1.1], fun i hi => ?_⟩, fun i j hi hj e => ?_⟩
  · rw [rd_backL p i (by rw [hp.1.1]; exact hi), hp.1.1]
    have := h.gl i hi; omega
  · rw [fn_backL hp hi, fn_backL hp hj] at e
    rw [← h.fg i hi, e, h.fg j hj]
noncomputable def dec (P : Prop) : Bool := @decide P (Classical.propDecidable P)
theorem dec_iff {P : Prop} : dec P = true ↔ P := by unfold dec; exact @decide_eq_true_iff P (Classical.propDecidable P)
theorem dec_t {P : Prop} (h : P) : dec P = true := dec_iff.2 h
theorem dec_f {P : Prop} (h : ¬ P) : dec P = false := Bool.eq_false_iff.2 (fun k => h (dec_iff.1 k))
theorem dec_of {P Q : Prop} [Decidable P] (h : P ↔ Q) : decide P = dec Q := by
  by_cases q : Q
  · rw [dec_t q, decide_eq_true (h.2 q)]
  · rw [dec_f q, decide_eq_false (fun k => q (h.1 k))]
def POK (p : List Int) : Prop := (1 ≤ p.length ∧ p.length ≤ 12) ∧ PermL p.length p
def MOK (t f : List Int) : Prop := POK t ∧ POK f ∧ t.length = f.length ∧ (∀ i, i < f.length → fn f i ≠ i ∧ fn f (fn f i) = i) ∧ ∀ i, i < t.length → rd (orbL t f) (i : Int) = 0
theorem cyc_le (n : Nat) (f : Nat → Nat) : cyc n f ≤ n := cntP_le _ _
def rdL (xs : List (List Int)) (i : Int) : List Int := xs.getD i.toNat []
theorem rdL_nat (xs : List (List Int)) (i : Nat) (h : i < xs.length) : rdL xs (i : Int) = xs[i] := by
  simp [rdL, List.getD_eq_getElem?_getD, h]
theorem rdL_set_self (xs : List (List Int)) (i : Nat) (v : List Int) (h : i < xs.length) : rdL (xs.set i v) (i : Int) = v := by
  simp [rdL, List.getD_eq_getElem?_getD, List.getElem?_set_self h]
theorem rdL_set_ne (xs : List (List Int)) (i j : Nat) (v : List Int) (h : i ≠ j) : rdL (xs.set i v) (j : Int) = rdL xs (j : Int) := by
  simp only [rdL, List.getD_eq_getElem?_getD, Int.toNat_natCast]
  rw [List.getElem?_set_ne h]
theorem listL_ext {l m : List (List Int)} (h : l.length = m.length) (he : ∀ i : Nat, i < l.length → rdL l (i : Int) = rdL m (i : Int)) : l = m := by
  refine List.ext_getElem h (fun i h1 h2 => ?_)
  have := he i h1
  rwa [rdL_nat l i h1, rdL_nat m i h2] at this
def Small (l : List (List Int)) : Prop := l.length ≤ 1048576 ∧ ∀ i : Nat, i < l.length → (rdL l (i : Int)).length ≤ 1048576
def VOK (t f : List Int) (k : Int) (v : List (List Int)) : Prop := MOK t f ∧ (1 ≤ k ∧ k ≤ 6) ∧ (t.length : Int) * k ≤ 12 ∧ v.length = f.length / 2 ∧ ∀ e : Nat, e < v.length → POK (rdL v (e : Int)) ∧ ((rdL v (e : Int)).length : Int) = k
theorem MOK.size {t f : List Int} (h : MOK t f) : 1 ≤ t.length ∧ t.length ≤ 12 ∧ f.length = t.length := ⟨h.1.1.1, h.1.1.2, h.2.2.1.symm⟩
theorem MOK.permT {t f : List Int} (h : MOK t f) : PermL t.length t := h.1.2
theorem MOK.permF {t f : List Int} (h : MOK t f) : PermL t.length f := by have := h.2.1.2; rw [← h.2.2.1] at this; exact this
def totL : List (List Int) → Nat
  | [] => 0
  | x :: l => x.length + totL l
def marksSS : Int → List (List Int) → List (List Int)
  | _, [] => []
  | a, x :: l => marks a x.length :: marksSS (a + (x.length : Int)) l
theorem marksSS_length (l : List (List Int)) : ∀ a : Int, (marksSS a l).length = l.length := by
  induction l with
  | nil => intro a; rfl
  | cons x l ih => intro a; simp [marksSS, ih]
theorem marksSS_get (l : List (List Int)) : ∀ (a : Int) (i : Nat), i < l.length → (marksSS a l)[i]? = some (marks (a + (totL (l.take i) : Int)) (rdL l (i : Int)).length) := by
  induction l with
  | nil => intro a i h; simp at h
  | cons x l ih =>
    intro a i h
    cases i with
    | zero => rw [rdL_nat (x :: l) 0 h]; simp [marksSS, totL]
    | succ i =>
      have h' : i < l.length := by simpa using h
      have e1 := ih (a + (x.length : Int)) i h'
      have e2 : rdL (x :: l) ((i + 1 : Nat) : Int) = rdL l (i : Int) := by rw [rdL_nat (x :: l) (i + 1) h, rdL_nat l i h']; rfl
      rw [e2]
      show (marksSS (a + (x.length : Int)) l)[i]? = _
      rw [e1, show a + (x.length : Int) + (totL (l.take i) : Int) = a + (totL ((x :: l).take (i + 1)) : Int) by simp [totL]; omega]
theorem marksSS_rd (l : List (List Int)) (a : Int) (i : Nat) (h : i < l.length) : rdL (marksSS a l) (i : Int) = marks (a + (totL (l.take i) : Int)) (rdL l (i : Int)).length := by
  have h2 : i < (marksSS a l).length := by rw [marksSS_length]; exact h
  have h3 := marksSS_get l a i h
  rw [List.getElem?_eq_getElem h2] at h3
  rw [rdL_nat _ _ h2]
  exact Option.some.inj h3
theorem totL_take (l : List (List Int)) : ∀ i : Nat, i < l.length → totL (l.take (i + 1)) = totL (l.take i) + (rdL l (i : Int)).length := by
  induction l with
  | nil => intro i h; simp at h
  | cons x l ih =>
    intro i h
    cases i with
    | zero => rw [rdL_nat (x :: l) 0 h]; simp [totL]
    | succ i =>
      have h' : i < l.length := by simpa using h
      have e2 : rdL (x :: l) ((i + 1 : Nat) : Int) = rdL l (i : Int) := by rw [rdL_nat (x :: l) (i + 1) h, rdL_nat l i h']; rfl
      have := ih i h'
      rw [e2]
      simp only [List.take_succ_cons, totL] at this ⊢
      omega
theorem totL_le (l : List (List Int)) : ∀ i : Nat, totL (l.take i) ≤ totL l := by
  induction l with
  | nil => intro i; simp [totL]
  | cons x l ih =>
    intro i
    cases i with
    | zero => simp [totL]
    | succ i => have := ih i; simp only [List.take_succ_cons, totL]; omega
def lowD (f : List Int) (j : Nat) : Bool := decide (j < fn f j)
def edgeN (f : List Int) (d : Nat) : Nat := cntP (lowD f) (if d < fn f d then d else fn f d)
def edgL (f : List Int) : List Int := (List.range f.length).map (fun d => (edgeN f d : Int))
theorem edgL_length (f : List Int) : (edgL f).length = f.length := by simp [edgL]
theorem rd_edgL (f : List Int) (d : Nat) (h : d < f.length) : rd (edgL f) (d : Int) = edgeN f d := by
  rw [rd_nat _ _ (by rw [edgL_length]; exact h)]; simp [edgL]
structure PairL (n : Nat) (f : List Int) : Prop where
  pts : Pts n f
  ne : ∀ i, i < n → fn f i ≠ i
  inv : ∀ i, i < n → fn f (fn f i) = i
theorem MOK.pair {t f : List Int} (h : MOK t f) : PairL t.length f := by
  obtain ⟨h1, h2, h3, h4, h5⟩ := h
  refine ⟨by have := h2.2.1; rw [← h3] at this; exact this, fun i hi => (h4 i (by omega)).1, fun i hi => (h4 i (by omega)).2⟩
theorem cntP_step (p : Nat → Bool) {a b : Nat} (ha : p a = true) (h : a < b) : cntP p a < cntP p b := by
  have h1 : cntP p (a + 1) = cntP p a + 1 := by simp only [cntP]; rw [if_pos ha]
  have h2 : ∀ {m n : Nat}, m ≤ n → cntP p m ≤ cntP p n := by
    intro m n
    induction n with
    | zero => intro hmn; obtain rfl : m = 0 := by omega
              exact Nat.le_refl _
    | succ n ih =>
      intro hmn
      by_cases e : m = n + 1
      · subst e; exact Nat.le_refl _
      · have := ih (by omega); simp only [cntP]; omega
  have := h2 (show a + 1 ≤ b by omega)
  omega
theorem PairL.flip {n : Nat} {f : List Int} (h : PairL n f) {i : Nat} (hi : i < n) : fn f i < n ∧ (lowD f (fn f i) = !lowD f i) := by
  have h1 := (h.pts.fn hi).2
  have h2 := h.ne i hi
  refine ⟨h1, ?_⟩
  unfold lowD
  rw [h.inv i hi]
  by_cases e : i < fn f i
  · rw [decide_eq_true e, decide_eq_false (by omega)]; rfl
  · rw [decide_eq_false e, decide_eq_true (by omega)]; rfl
theorem PairL.half {n : Nat} {f : List Int} (h : PairL n f) : 2 * cntP (lowD f) n = n := by
  have h1 := cntP_not (lowD f) n
  have h2 := cntP_perm (lowD f) (n := n) (fn f) (fn f) (fun i hi => ⟨(h.pts.fn hi).2, h.inv i hi⟩) (fun i hi => ⟨(h.pts.fn hi).2, h.inv i hi⟩)
  have h3 : cntP (fun i => lowD f (fn f i)) n = cntP (fun i => !lowD f i) n := cntP_congr _ _ _ (fun i hi => (h.flip hi).2)
  omega
theorem PairL.low {n : Nat} {f : List Int} (h : PairL n f) {d : Nat} (hd : d < n) : ∃ a, a < n ∧ lowD f a = true ∧ edgeN f d = cntP (lowD f) a ∧ (d = a ∨ d = fn f a) := by
  have h1 := (h.pts.fn hd).2
  have h2 := h.ne d hd
  unfold edgeN
  by_cases e : d < fn f d
  · rw [if_pos e]; exact ⟨d, hd, decide_eq_true e, rfl, .inl rfl⟩
  · rw [if_neg e]; exact ⟨fn f d, h1, by unfold lowD; rw [h.inv d hd]; exact decide_eq_true (by omega), rfl, .inr (h.inv d hd).symm⟩
theorem PairL.edge_of {n : Nat} {f : List Int} (h : PairL n f) {a : Nat} (ha : a < n) (hl : lowD f a = true) : edgeN f a = cntP (lowD f) a ∧ edgeN f (fn f a) = cntP (lowD f) a := by
  have e : a < fn f a := of_decide_eq_true hl
  unfold edgeN
  rw [if_pos e, h.inv a ha, if_neg (by omega)]
  exact ⟨rfl, rfl⟩
noncomputable def voltL (f : List Int) (v : List (List Int)) (d : Nat) : List Int := if d < fn f d then rdL v (edgeN f d : Int) else backL (rdL v (edgeN f d : Int))
structure VN (n κ : Nat) (t f : List Int) (v : List (List Int)) : Prop where
  tp : PermL n t
  fp : PermL n f
  pr : PairL n f
  n0 : 1 ≤ n
  n1 : n ≤ 12
  k0 : 1 ≤ κ
  k1 : κ ≤ 6
  nk : κ * n ≤ 12
  vl : v.length = n / 2
  vp : ∀ e : Nat, e < v.length → PermL κ (rdL v (e : Int))
theorem VOK.vn {t f : List Int} {k : Int} {v : List (List Int)} (h : VOK t f k v) : ∃ κ : Nat, k = (κ : Int) ∧ VN t.length κ t f v := by
  obtain ⟨h1, h2, h3, h4, h5⟩ := h
  have hz := h1.size
  refine ⟨k.toNat, by omega, h1.permT, h1.permF, h1.pair, by omega, by omega, by omega, by omega, ?_, by rw [h4, hz.2.2], fun e he => ?_⟩
  · obtain ⟨κ, rfl⟩ : ∃ κ : Nat, k = (κ : Int) := ⟨k.toNat, by omega⟩
    rw [Int.toNat_natCast, Nat.mul_comm]
    have : ((t.length * κ : Nat) : Int) = (t.length : Int) * (κ : Int) := Int.natCast_mul _ _
    omega
  · obtain ⟨p1, p2⟩ := h5 e he
    have := p1.2
    rw [show (rdL v (e : Int)).length = k.toNat by omega] at this
    exact this
def Face (n : Nat) (face : List Int) : Prop := face.length ≤ n ∧ ∀ i : Nat, i < face.length → 0 ≤ rd face (i : Int) ∧ rd face (i : Int) < n
theorem Face.fn {n : Nat} {face : List Int} (h : Face n face) {i : Nat} (hi : i < face.length) : rd face (i : Int) = (fn face i : Int) ∧ fn face i < n := by
  have := h.2 i hi
  unfold M.fn
  omega
theorem cycOf_face {n : Nat} {f g : Nat → Nat} (h : PermN n f g) {x : Nat} (hx : x < n) : Face n (cycOf f x) := by
  obtain ⟨p1, p2, p3, p4⟩ := per_spec h hx
  refine ⟨by rw [cycOf_length]; exact p2, fun i hi => ?_⟩
  rw [cycOf_length] at hi
  rw [rd_nat _ _ (by rw [cycOf_length]; exact hi)]
  have := itr_lt h hx i
  simp [cycOf]
  omega
theorem cycL_face {n : Nat} {f g : Nat → Nat} (h : PermN n f g) {i : Nat} (hi : i < (cycL n f).length) : Face n (rdL (cycL n f) (i : Int)) := by
  rw [rdL_nat _ _ hi]
  have := List.getElem_mem hi
  obtain ⟨x, hx, e⟩ := List.mem_map.1 this
  have hx' := List.mem_range.1 (List.mem_filter.1 hx).1
  rw [← e]
  exact cycOf_face h hx'
def Holds (face : List Int) (d : Int) : Prop := ∃ j : Nat, j < face.length ∧ rd face (j : Int) = d
noncomputable def repN (n : Nat) (f : Nat → Nat) (d : Nat) : Nat := Classical.choose (least_con (EF n f) d)
theorem repN_spec (n : Nat) (f : Nat → Nat) (d : Nat) : ConE (EF n f) d (repN n f d) ∧ repN n f d ≤ d ∧ ∀ k, ConE (EF n f) d k → repN n f d ≤ k := Classical.choose_spec (least_con (EF n f) d)
theorem repN_least (n : Nat) (f : Nat → Nat) (d : Nat) : lstB (EF n f) (repN n f d) = true := by
  obtain ⟨h1, h2, h3⟩ := repN_spec n f d
  exact lstB_iff.2 (fun j hj hc => by have := h3 j (h1.trans hc); omega)
theorem repN_iff (n : Nat) (f : Nat → Nat) (d e : Nat) : repN n f d = repN n f e ↔ ConE (EF n f) d e := by
  obtain ⟨h1, h2, h3⟩ := repN_spec n f d
  obtain ⟨k1, k2, k3⟩ := repN_spec n f e
  constructor
  · intro w; rw [← w] at k1; exact h1.trans k1.symm
  · intro w
    have := h3 _ (w.trans k1)
    have := k3 _ (w.symm.trans h1)
    omega
theorem repN_self {n : Nat} {f : Nat → Nat} {r : Nat} (h : lstB (EF n f) r = true) : repN n f r = r := by
  obtain ⟨h1, h2, h3⟩ := repN_spec n f r
  rcases Nat.lt_or_eq_of_le h2 with q | q
  · exact absurd h1 (lstB_iff.1 h _ q)
  · exact q
noncomputable def vtx (n : Nat) (t : List Int) (d : Nat) : Nat := cntP (lstB (EF n (fn t))) (repN n (fn t) d)
theorem vtx_iff (n : Nat) (t : List Int) (d e : Nat) : vtx n t d = vtx n t e ↔ ConE (EF n (fn t)) d e := by
  rw [← repN_iff]
  constructor
  · intro w
    rcases Nat.lt_trichotomy (repN n (fn t) d) (repN n (fn t) e) with q | q | q
    · have := cntP_step _ (repN_least n (fn t) d) q
      unfold vtx at w; omega
    · exact q
    · have := cntP_step _ (repN_least n (fn t) e) q
      unfold vtx at w; omega
  · intro w; unfold vtx; rw [w]
theorem vtx_lt {n : Nat} (t : List Int) {d : Nat} (hd : d < n) : vtx n t d < cyc n (fn t) := by
  obtain ⟨h1, h2, h3⟩ := repN_spec n (fn t) d
  exact cntP_step _ (repN_least n (fn t) d) (show repN n (fn t) d < n by omega)
theorem cycUp_at (n : Nat) (f : Nat → Nat) : ∀ (i e : Nat), e < cntP (lstB (EF n f)) i → ∃ r : Nat, rdL (cycUp n f i) (e : Int) = cycOf f r ∧ r < i ∧ lstB (EF n f) r = true ∧ cntP (lstB (EF n f)) r = e
  | 0, e, h => by simp [cntP] at h
  | i + 1, e, h => by
    have hl : (cycUp n f i).length = cntP (lstB (EF n f)) i := by unfold cycUp; rw [List.length_map, filter_cntP]
    by_cases q : lstB (EF n f) i = true
    · have hc : cntP (lstB (EF n f)) (i + 1) = cntP (lstB (EF n f)) i + 1 := by simp only [cntP]; rw [if_pos q]
      by_cases z : e < cntP (lstB (EF n f)) i
      · obtain ⟨r, d1, d2, d3, d4⟩ := cycUp_at n f i e z
        refine ⟨r, ?_, by omega, d3, d4⟩
        rw [cycUp_pos q, rdL_nat _ _ (by rw [List.length_append]; omega), List.getElem_append_left (by omega), ← rdL_nat _ _ (by omega), d1]
      · refine ⟨i, ?_, by omega, q, by omega⟩
        rw [cycUp_pos q, rdL_nat _ _ (by rw [List.length_append, hl]; simp; omega), List.getElem_append_right (by omega)]
        simp
    · have hc : cntP (lstB (EF n f)) (i + 1) = cntP (lstB (EF n f)) i := by simp only [cntP]; rw [if_neg q]; rfl
      obtain ⟨r, d1, d2, d3, d4⟩ := cycUp_at n f i e (by omega)
      exact ⟨r, by rw [cycUp_neg (by simpa using q)]; exact d1, by omega, d3, d4⟩
theorem cycL_at (n : Nat) (f : Nat → Nat) {e : Nat} (h : e < cyc n f) : ∃ r : Nat, rdL (cycL n f) (e : Int) = cycOf f r ∧ r < n ∧ lstB (EF n f) r = true ∧ cntP (lstB (EF n f)) r = e := cycUp_at n f n e h
theorem holds_iff {n : Nat} {t : List Int} (h : PermL n t) {e : Nat} (he : e < cyc n (fn t)) {d : Nat} (hd : d < n) : Holds (rdL (cycL n (fn t)) (e : Int)) (d : Int) ↔ vtx n t d = e := by
  obtain ⟨r, r1, r2, r3, r4⟩ := cycL_at n (fn t) he
  obtain ⟨p1, p2, p3, p4⟩ := per_spec h.perm r2
  have hv : vtx n t r = e := by unfold vtx; rw [repN_self r3, r4]
  rw [r1]
  constructor
  · rintro ⟨j, hj, e2⟩
    rw [cycOf_length] at hj
    rw [rd_nat _ _ (by rw [cycOf_length]; exact hj)] at e2
    have e3 : (itr (fn t) j r : Int) = (d : Int) := by rw [← e2]; simp [cycOf]
    have e4 : itr (fn t) j r = d := by omega
    rw [← hv]
    exact (vtx_iff n t _ _).2 (e4 ▸ (itr_con h.perm r2 j).symm)
  · intro w
    have hc : ConE (EF n (fn t)) r d := (vtx_iff n t _ _).1 (by rw [hv, w])
    obtain ⟨m, hm, e2⟩ := con_itr h.perm r2 p1 p3 hc
    refine ⟨m, by rw [cycOf_length]; exact hm, ?_⟩
    rw [rd_nat _ _ (by rw [cycOf_length]; exact hm)]
    simp [cycOf, e2]
noncomputable def vtxL (n : Nat) (t : List Int) : List Int := (List.range n).map (fun d => (vtx n t d : Int))
theorem vtxL_length (n : Nat) (t : List Int) : (vtxL n t).length = n := by simp [vtxL]
theorem rd_vtxL (n : Nat) (t : List Int) (d : Nat) (h : d < n) : rd (vtxL n t) (d : Int) = (vtx n t d : Int) := by
  rw [rd_nat _ _ (by rw [vtxL_length]; exact h)]; simp [vtxL]
def bStep (st : List Int × List Int) (d : Int) : List Int × List Int := if rd st.1 d < 0 then (st.1.set d.toNat (st.2.length : Int), st.2 ++ [d]) else st
structure BInv (n : Nat) (st : List Int × List Int) : Prop where
  lo : st.1.length = n
  qo : ∀ j : Nat, j < st.2.length → ∃ a : Nat, a < n ∧ rd st.2 (j : Int) = (a : Int) ∧ rd st.1 (a : Int) = (j : Int)
  oq : ∀ d : Nat, d < n → rd st.1 (d : Int) < 0 ∨ ∃ j : Nat, j < st.2.length ∧ rd st.1 (d : Int) = (j : Int) ∧ rd st.2 (j : Int) = (d : Int)
theorem rd_snoc_lt' (x : List Int) (v : Int) (a : Nat) (h : a < x.length) : rd (x ++ [v]) (a : Int) = rd x (a : Int) := by
  rw [rd_nat _ _ (by simp; omega), rd_nat _ _ h, List.getElem_append_left h]
theorem rd_snoc_eq' (x : List Int) (v : Int) : rd (x ++ [v]) (x.length : Int) = v := by
  rw [rd_nat _ _ (by simp)]; simp
theorem BInv.step {n : Nat} {st : List Int × List Int} (h : BInv n st) {d : Nat} (hd : d < n) : BInv n (bStep st (d : Int)) ∧ st.2.length ≤ (bStep st (d : Int)).2.length ∧ (∀ j : Nat, j < st.2.length → rd (bStep st (d : Int)).2 (j : Int) = rd st.2 (j : Int)) ∧ (∀ e : Nat, e < n → 0 ≤ rd st.1 (e : Int) → 0 ≤ rd (bStep st (d : Int)).1 (e : Int)) ∧ 0 ≤ rd (bStep st (d : Int)).1 (d : Int) := by
  unfold bStep
  by_cases q : rd st.1 (d : Int) < 0
  · rw [if_pos q]
    have hl := h.lo
    refine ⟨⟨by simp [hl], fun j hj => ?_, fun e he => ?_⟩, by simp, fun j hj => rd_snoc_lt' _ _ _ hj, fun e he h0 => ?_, ?_⟩
    · simp only [List.length_append, List.length_cons, List.length_nil] at hj
      by_cases w : j = st.2.length
      · subst w
        refine ⟨d, hd, rd_snoc_eq' _ _, ?_⟩
        show rd (st.1.set d _) (d : Int) = _
        rw [rd_set_self _ _ _ (by omega)]
      · obtain ⟨a, a1, a2, a3⟩ := h.qo j (by omega)
        refine ⟨a, a1, by rw [rd_snoc_lt' _ _ _ (by omega), a2], ?_⟩
        show rd (st.1.set d _) (a : Int) = _
        rw [rd_set_ne _ _ _ _ (fun w2 => by subst w2; omega), a3]
    · show rd (st.1.set d _) (e : Int) < 0 ∨ ∃ j : Nat, j < (st.2 ++ [(d : Int)]).length ∧ rd (st.1.set d _) (e : Int) = (j : Int) ∧ _
      by_cases w : d = e
      · subst w
        rw [rd_set_self _ _ _ (by omega)]
        exact .inr ⟨st.2.length, by simp, rfl, rd_snoc_eq' _ _⟩
      · rw [rd_set_ne _ _ _ _ w]
        rcases h.oq e he with o | ⟨j, j1, j2, j3⟩
        · exact .inl o
        · exact .inr ⟨j, by simp; omega, j2, by rw [rd_snoc_lt' _ _ _ j1, j3]⟩
    · show 0 ≤ rd (st.1.set d _) (e : Int)
      by_cases w : d = e
      · subst w; rw [rd_set_self _ _ _ (by omega)]; omega
      · rw [rd_set_ne _ _ _ _ w]; exact h0
    · show 0 ≤ rd (st.1.set d _) (d : Int)
      rw [rd_set_self _ _ _ (by omega)]; omega
  · rw [if_neg q]
    exact ⟨h, Nat.le_refl _, fun _ _ => rfl, fun _ _ h0 => h0, by omega⟩
noncomputable def ldart (n : Nat) (f : List Int) (e : Nat) : Nat := Classical.epsilon (fun d => d < n ∧ lowD f d = true ∧ cntP (lowD f) d = e)
theorem ldart_spec {n : Nat} {f : List Int} (h : PairL n f) {e : Nat} (he : e < n / 2) : ldart n f e < n ∧ lowD f (ldart n f e) = true ∧ cntP (lowD f) (ldart n f e) = e := by
  have hh := h.half
  have hx : ∀ m, e < cntP (lowD f) m → ∃ d, d < m ∧ lowD f d = true ∧ cntP (lowD f) d = e := by
    intro m
    induction m with
    | zero => intro w; simp [cntP] at w
    | succ m ih =>
      intro w
      simp only [cntP] at w
      by_cases q : lowD f m = true
      · rw [if_pos q] at w
        by_cases z : cntP (lowD f) m = e
        · exact ⟨m, by omega, q, z⟩
        · obtain ⟨d, d1, d2⟩ := ih (by omega)
          exact ⟨d, by omega, d2⟩
      · rw [if_neg q] at w
        obtain ⟨d, d1, d2⟩ := ih (by omega)
        exact ⟨d, by omega, d2⟩
  exact Classical.epsilon_spec (p := fun d => d < n ∧ lowD f d = true ∧ cntP (lowD f) d = e) (hx n (by omega))
theorem low_unique {f : List Int} {a b : Nat} (ha : lowD f a = true) (hb : lowD f b = true) (h : cntP (lowD f) a = cntP (lowD f) b) : a = b := by
  rcases Nat.lt_trichotomy a b with q | q | q
  · have := cntP_step (lowD f) ha q; omega
  · exact q
  · have := cntP_step (lowD f) hb q; omega
noncomputable def conjE (n : Nat) (t f : List Int) (v : List (List Int)) (u : Nat) (b : List Int) (e : Nat) : List Int :=
  if vtx n t (fn f (ldart n f e)) = u then mulL (if vtx n t (ldart n f e) = u then mulL (backL b) (rdL v (e : Int)) else rdL v (e : Int)) b
  else (if vtx n t (ldart n f e) = u then mulL (backL b) (rdL v (e : Int)) else rdL v (e : Int))
noncomputable def conjV (n : Nat) (t f : List Int) (v : List (List Int)) (u : Nat) (b : List Int) : List (List Int) := (List.range v.length).map (conjE n t f v u b)
theorem conjV_length (n : Nat) (t f : List Int) (v : List (List Int)) (u : Nat) (b : List Int) : (conjV n t f v u b).length = v.length := by simp [conjV]
theorem rdL_conjV (n : Nat) (t f : List Int) (v : List (List Int)) (u : Nat) (b : List Int) {e : Nat} (he : e < v.length) : rdL (conjV n t f v u b) (e : Int) = conjE n t f v u b e := by
  rw [rdL_nat _ _ (by rw [conjV_length]; exact he)]; simp [conjV]
theorem conjE_perm {n κ : Nat} {t f : List Int} {v : List (List Int)} (h : VN n κ t f v) {b : List Int} (hb : PermL κ b) (u : Nat) {e : Nat} (he : e < v.length) : PermL κ (conjE n t f v u b e) := by
  have hx := h.vp e he
  have hk := backL_perm hb
  unfold conjE
  split <;> split
  · exact mulL_perm (mulL_perm hk hx) hb
  · exact mulL_perm hx hb
  · exact mulL_perm hk hx
  · exact hx
theorem conjV_vn {n κ : Nat} {t f : List Int} {v : List (List Int)} (h : VN n κ t f v) {b : List Int} (hb : PermL κ b) (u : Nat) : VN n κ t f (conjV n t f v u b) :=
  ⟨h.tp, h.fp, h.pr, h.n0, h.n1, h.k0, h.k1, h.nk, by rw [conjV_length]; exact h.vl, fun e he => by
    rw [conjV_length] at he
    rw [rdL_conjV _ _ _ _ _ _ he]; exact conjE_perm h hb u he⟩
def Gau (n κ : Nat) (t f : List Int) (v v' : List (List Int)) : Prop := ∃ g gi : Nat → Nat → Nat, (∀ w, PermN κ (g w) (gi w)) ∧ ∀ d, d < n → ∀ s, s < κ → fn (voltL f v' d) (g (vtx n t d) s) = g (vtx n t (fn f d)) (fn (voltL f v d) s)
theorem permN_id (κ : Nat) : PermN κ (fun s => s) (fun s => s) := ⟨fun _ h => h, fun _ h => h, fun _ _ => rfl, fun _ _ => rfl⟩
theorem Gau.refl (n κ : Nat) (t f : List Int) (v : List (List Int)) : Gau n κ t f v v := ⟨fun _ s => s, fun _ s => s, fun _ => permN_id κ, fun _ _ _ _ => rfl⟩
theorem Gau.trans {n κ : Nat} {t f : List Int} {a b c : List (List Int)} (ha : VN n κ t f a) (h : Gau n κ t f a b) (k : Gau n κ t f b c) : Gau n κ t f a c := by
  obtain ⟨g, gi, g1, g2⟩ := h
  obtain ⟨q, qi, q1, q2⟩ := k
  refine ⟨fun w s => q w (g w s), fun w s => gi w (qi w s), fun w => ⟨fun i hi => (q1 w).fl _ ((g1 w).fl i hi), fun i hi => (g1 w).gl _ ((q1 w).gl i hi), fun i hi => ?_, fun i hi => ?_⟩, fun d hd s hs => ?_⟩
  · show gi w (qi w (q w (g w i))) = i
    rw [(q1 w).gf _ ((g1 w).fl i hi), (g1 w).gf i hi]
  · show q w (g w (gi w (qi w i))) = i
    rw [(g1 w).fg _ ((q1 w).gl i hi), (q1 w).fg i hi]
  · show fn (voltL f c d) (q _ (g _ s)) = q _ (g _ (fn (voltL f a d) s))
    rw [q2 d hd _ ((g1 _).fl s hs), g2 d hd s hs]
theorem VN.small {n κ : Nat} {t f : List Int} {v : List (List Int)} (h : VN n κ t f v) : Small v := by
  have := h.vl
  have := h.n1
  have := h.k1
  exact ⟨by omega, fun i hi => by have := (h.vp i hi).1.1; omega⟩
noncomputable def ccV (t f : List Int) (k : Int) (v : List (List Int)) (d : Int) (b : List Int) : List (List Int) × Bool := if dec (VOK t f k v ∧ (0 ≤ d ∧ d < (t.length : Int)) ∧ POK b ∧ (b.length : Int) = k) = true then (conjV t.length t f v (vtx t.length t d.toNat) b, true) else ([], false)
theorem totL_bd {m : Nat} : ∀ v : List (List Int), (∀ x ∈ v, x.length ≤ m) → totL v ≤ v.length * m
  | [], _ => by simp [totL]
  | x :: v, h => by
    have := totL_bd v (fun y hy => h y (List.mem_cons_of_mem _ hy))
    have := h x (List.mem_cons_self ..)
    simp only [totL, List.length_cons, Nat.succ_mul]; omega
theorem Small.tot {v : List (List Int)} (h : Small v) : totL v ≤ 1099511627776 := by
  have h1 := totL_bd (m := 1048576) v (fun x hx => by
    obtain ⟨i, hi, e⟩ := List.getElem_of_mem hx
    have := h.2 i hi
    rw [rdL_nat v i hi, e] at this
    exact this)
  have h2 : v.length * 1048576 ≤ 1048576 * 1048576 := Nat.mul_le_mul_right _ h.1
  omega
theorem ccV_small (t f : List Int) (k : Int) (v : List (List Int)) (d : Int) (b : List Int) : Small (ccV t f k v d b).1 := by
  unfold ccV
  split
  · rename_i h
    obtain ⟨hV, hd, hb, hbk⟩ := dec_iff.1 h
    obtain ⟨κ, rfl, hN⟩ := hV.vn
    have hbp := hb.2
    rw [show b.length = κ by omega] at hbp
    exact (conjV_vn hN hbp _).small
  · exact ⟨by simp, fun j hj => absurd hj (by simp)⟩

end Go.Proofs.Ytmcgkckdnelcdaa.M
